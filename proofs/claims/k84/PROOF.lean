import PyProof.Rows.All
import Wide.All
import OpenK.AllK
import Wide.FinOn
import HandS.ForMost
import HandS.Evl
import HandS.IsInst
import HandS.Wide
import HandS.SortInts
import HandS.Style
import HandS.More
import HandS.Conv
import KE.DataMinMax
import KE.KDictList
import KE.KEqSeq
import PySem.Challenge.RW_nextpair_k84_whole_wheels_turned_and_mir
set_option Elab.async false
set_option linter.all false
set_option maxRecDepth 100000
set_option maxHeartbeats 2000000
/-! DL: a layer of data over the readings: frozen data (D), mutable cells (MC), one word of the whole state (Sta), and what an expression is worth (EvD) without heaps or addresses. -/
namespace DL
open PySem L2
open Evl (Ex)

/-! ### pointwise -/
def P2 {α β : Type} (R : α → β → Prop) (xs : List α) (ys : List β) : Prop := xs.length = ys.length ∧ ∀ (i : Nat) (x : α) (y : β), xs[i]? = some x → ys[i]? = some y → R x y
section
variable {α β γ : Type} {R S : α → β → Prop} {xs : List α} {ys : List β}
theorem P2.imp (h : P2 R xs ys) (f : ∀ x y, R x y → S x y) : P2 S xs ys := ⟨h.1, fun i x y a b => f x y (h.2 i x y a b)⟩
theorem P2.nil : P2 R [] [] := ⟨rfl, fun i x y a _ => by simp at a⟩
theorem P2.cons {x : α} {y : β} (r : R x y) (h : P2 R xs ys) : P2 R (x :: xs) (y :: ys) := ⟨by simp [h.1], fun i a b e1 e2 => by
  cases i with
  | zero =>
    have e1 : x = a := by simpa using e1
    have e2 : y = b := by simpa using e2
    subst e1; subst e2; exact r
  | succ i => exact h.2 i a b (by simpa using e1) (by simpa using e2)⟩
theorem P2.uncons {x : α} {y : β} (h : P2 R (x :: xs) (y :: ys)) : R x y ∧ P2 R xs ys :=
  ⟨h.2 0 x y rfl rfl, by have := h.1; simpa using this, fun i a b e1 e2 => h.2 (i + 1) a b (by simpa using e1) (by simpa using e2)⟩
theorem P2.inv_nil (h : P2 R [] ys) : ys = [] := by
  have := h.1
  cases ys with
  | nil => rfl
  | cons y ys => simp at this
theorem P2.inv_cons {x : α} (h : P2 R (x :: xs) ys) : ∃ y zs, ys = y :: zs ∧ R x y ∧ P2 R xs zs := by
  cases ys with
  | nil => have := h.1; simp at this
  | cons y zs => exact ⟨y, zs, rfl, h.uncons.1, h.uncons.2⟩
theorem P2.get (h : P2 R xs ys) {i : Nat} {x : α} (e : xs[i]? = some x) : ∃ y, ys[i]? = some y ∧ R x y := by
  have hi : i < xs.length := (List.getElem?_eq_some_iff.mp e).1
  have hj : i < ys.length := h.1 ▸ hi
  exact ⟨ys[i], List.getElem?_eq_getElem hj, h.2 i _ _ e (List.getElem?_eq_getElem hj)⟩
theorem P2.append {xs' : List α} {ys' : List β} (h : P2 R xs ys) (h' : P2 R xs' ys') : P2 R (xs ++ xs') (ys ++ ys') := by
  refine ⟨by rw [List.length_append, List.length_append, h.1, h'.1], fun i x y a b => ?_⟩
  by_cases hi : i < xs.length
  · rw [List.getElem?_append_left hi] at a
    rw [List.getElem?_append_left (h.1 ▸ hi)] at b
    exact h.2 i x y a b
  · have hi' : xs.length ≤ i := Nat.le_of_not_lt hi
    rw [List.getElem?_append_right hi'] at a
    rw [List.getElem?_append_right (h.1 ▸ hi')] at b
    rw [h.1] at a
    exact h'.2 _ x y a b
theorem P2.single {x : α} {y : β} (r : R x y) : P2 R [x] [y] := P2.cons r P2.nil
theorem P2.set (h : P2 R xs ys) {j : Nat} {x : α} {y : β} (r : R x y) : P2 R (xs.set j x) (ys.set j y) := by
  refine ⟨by rw [List.length_set, List.length_set, h.1], fun i a b e1 e2 => ?_⟩
  by_cases hi : j = i
  · subst hi
    have hj : j < xs.length := by
      have := (List.getElem?_eq_some_iff.mp e1).1
      rwa [List.length_set] at this
    rw [List.getElem?_set_self hj] at e1
    rw [List.getElem?_set_self (h.1 ▸ hj)] at e2
    cases e1; cases e2; exact r
  · rw [List.getElem?_set_ne hi] at e1 e2
    exact h.2 i a b e1 e2
theorem P2.take (h : P2 R xs ys) (n : Nat) : P2 R (xs.take n) (ys.take n) := by
  refine ⟨by rw [List.length_take, List.length_take, h.1], fun i x y a b => ?_⟩
  rw [List.getElem?_take] at a b
  split at a
  · rename_i hi
    rw [if_pos hi] at b
    exact h.2 i x y a b
  · cases a
theorem P2.drop (h : P2 R xs ys) (n : Nat) : P2 R (xs.drop n) (ys.drop n) := by
  refine ⟨by rw [List.length_drop, List.length_drop, h.1], fun i x y a b => ?_⟩
  rw [List.getElem?_drop] at a b
  exact h.2 _ x y a b
theorem P2.reverse (h : P2 R xs ys) : P2 R xs.reverse ys.reverse := by
  refine ⟨by rw [List.length_reverse, List.length_reverse, h.1], fun i x y a b => ?_⟩
  have hi : i < xs.length := by
    have := (List.getElem?_eq_some_iff.mp a).1
    rwa [List.length_reverse] at this
  rw [List.getElem?_reverse hi] at a
  rw [List.getElem?_reverse (h.1 ▸ hi)] at b
  rw [h.1] at a
  exact h.2 _ x y a b
theorem P2.flip (h : P2 R xs ys) : P2 (fun y x => R x y) ys xs := ⟨h.1.symm, fun i y x a b => h.2 i x y b a⟩
end

/-! ### data, frozen -/
inductive D where
  | non | bl (b : Bool) | int (i : Int) | str (s : Str)
  | lst (l : List D) | tup (l : List D) | dct (kvs : List (Key × D)) | ins (C : Addr) (fs : List (Str × D)) | scr (ns : List Int)
/-- v stands for d in the frozen heap F -/
inductive R (K : PySem.W.Frag) (F : Hp) : D → V → Prop where
  | non : R K F .non .non
  | bl (b : Bool) : R K F (.bl b) (.bl b)
  | int (i : Int) : R K F (.int i) (.int i)
  | str (s : Str) : R K F (.str s) (.str s)
  | lst {a : Addr} {xs : List V} {ds : List D} (h : F a = some (.lst xs)) (hl : ds.length = xs.length) (hr : ∀ (i : Nat) (d : D) (v : V), ds[i]? = some d → xs[i]? = some v → R K F d v) : R K F (.lst ds) (.ref a)
  | tup {a : Addr} {xs : List V} {ds : List D} (h : F a = some (.tup xs)) (hl : ds.length = xs.length) (hr : ∀ (i : Nat) (d : D) (v : V), ds[i]? = some d → xs[i]? = some v → R K F d v) : R K F (.tup ds) (.ref a)
  | dct {a : Addr} {ws : List (Key × V)} {kvs : List (Key × D)} (h : F a = some (.dK ws)) (hl : kvs.map (·.1) = ws.map (·.1)) (hr : ∀ (i : Nat) (p : Key × D) (q : Key × V), kvs[i]? = some p → ws[i]? = some q → R K F p.2 q.2) : R K F (.dct kvs) (.ref a)
  | ins {a C dx : Addr} {ws : List (Str × V)} {fs : List (Str × D)} (h : F a = some (.ins C dx ws)) (hl : fs.map (·.1) = ws.map (·.1)) (hr : ∀ (i : Nat) (p : Str × D) (q : Str × V), fs[i]? = some p → ws[i]? = some q → R K F p.2 q.2) : R K F (.ins C fs) (.ref a)
  | scr {a : Addr} {ns : List Int} (h : SqL K F a (ns.map V.int)) : R K F (.scr ns) (.ref a)
section
variable {K : PySem.W.Frag} {F F' H : Hp} {d : D} {v : V}
theorem R.mono (h : R K F d v) (e : Ex F F') : R K F' d v := by
  induction h with
  | non => exact .non
  | bl b => exact .bl b
  | int i => exact .int i
  | str s => exact .str s
  | lst h hl _ ih => exact .lst (e _ _ h) hl ih
  | tup h hl _ ih => exact .tup (e _ _ h) hl ih
  | dct h hl _ ih => exact .dct (e _ _ h) hl ih
  | ins h hl _ ih => exact .ins (e _ _ h) hl ih
  | scr h => exact .scr (Evl.ex_l e h)
theorem R.int_inv {i : Int} (h : R K F (.int i) v) : v = .int i := by cases h; rfl
theorem R.bl_inv {b : Bool} (h : R K F (.bl b) v) : v = .bl b := by cases h; rfl
theorem R.str_inv {s : Str} (h : R K F (.str s) v) : v = .str s := by cases h; rfl
theorem R.non_inv (h : R K F .non v) : v = .non := by cases h; rfl
theorem R.lst_inv {ds : List D} (h : R K F (.lst ds) v) : ∃ a xs, v = .ref a ∧ F a = some (.lst xs) ∧ P2 (R K F) ds xs := by
  cases h with
  | lst h hl hr => exact ⟨_, _, rfl, h, hl, hr⟩
theorem R.tup_inv {ds : List D} (h : R K F (.tup ds) v) : ∃ a xs, v = .ref a ∧ F a = some (.tup xs) ∧ P2 (R K F) ds xs := by
  cases h with
  | tup h hl hr => exact ⟨_, _, rfl, h, hl, hr⟩
def PK {α : Type} (R : D → V → Prop) (kvs : List (α × D)) (ws : List (α × V)) : Prop := P2 (fun p q => p.1 = q.1 ∧ R p.2 q.2) kvs ws
theorem PK.of {α : Type} {R : D → V → Prop} {kvs : List (α × D)} {ws : List (α × V)} (hl : kvs.map (·.1) = ws.map (·.1)) (hr : ∀ (i : Nat) (p : α × D) (q : α × V), kvs[i]? = some p → ws[i]? = some q → R p.2 q.2) : PK R kvs ws := by
  refine ⟨by simpa using congrArg List.length hl, fun i p q e1 e2 => ⟨?_, hr i p q e1 e2⟩⟩
  have h1 : (kvs.map (·.1))[i]? = some p.1 := by rw [List.getElem?_map, e1]; rfl
  have h2 : (ws.map (·.1))[i]? = some q.1 := by rw [List.getElem?_map, e2]; rfl
  rw [hl, h2] at h1
  exact (Option.some.inj h1).symm
theorem PK.keys {α : Type} {R : D → V → Prop} {kvs : List (α × D)} {ws : List (α × V)} (h : PK R kvs ws) : kvs.map (·.1) = ws.map (·.1) := by
  refine List.ext_getElem? fun i => ?_
  rw [List.getElem?_map, List.getElem?_map]
  cases e : kvs[i]? with
  | none =>
    have : ws[i]? = none := by
      rw [List.getElem?_eq_none_iff] at e ⊢
      rw [← h.1]; exact e
    rw [this]; rfl
  | some p =>
    obtain ⟨q, e2, r, _⟩ := P2.get h e
    rw [e2]
    show some p.1 = some q.1
    rw [r]
theorem R.dct_inv {kvs : List (Key × D)} (h : R K F (.dct kvs) v) : ∃ a ws, v = .ref a ∧ F a = some (.dK ws) ∧ PK (R K F) kvs ws := by
  cases h with
  | dct h hl hr => exact ⟨_, _, rfl, h, PK.of hl hr⟩
theorem R.ins_inv {C : Addr} {fs : List (Str × D)} (h : R K F (.ins C fs) v) : ∃ a dx ws, v = .ref a ∧ F a = some (.ins C dx ws) ∧ PK (R K F) fs ws := by
  cases h with
  | ins h hl hr => exact ⟨_, _, _, rfl, h, PK.of hl hr⟩
theorem R.scr_inv {ns : List Int} (h : R K F (.scr ns) v) : ∃ a, v = .ref a ∧ SqL K F a (ns.map V.int) := by
  cases h with
  | scr h => exact ⟨_, rfl, h⟩
theorem R.lst' {a : Addr} {xs : List V} {ds : List D} (h : F a = some (.lst xs)) (hr : P2 (R K F) ds xs) : R K F (.lst ds) (.ref a) := .lst h hr.1 hr.2
theorem R.tup' {a : Addr} {xs : List V} {ds : List D} (h : F a = some (.tup xs)) (hr : P2 (R K F) ds xs) : R K F (.tup ds) (.ref a) := .tup h hr.1 hr.2
theorem R.dct' {a : Addr} {ws : List (Key × V)} {kvs : List (Key × D)} (h : F a = some (.dK ws)) (hr : PK (R K F) kvs ws) : R K F (.dct kvs) (.ref a) := .dct h hr.keys fun i p q a b => (hr.2 i p q a b).2
theorem R.ins' {a C dx : Addr} {ws : List (Str × V)} {fs : List (Str × D)} (h : F a = some (.ins C dx ws)) (hr : PK (R K F) fs ws) : R K F (.ins C fs) (.ref a) := .ins h hr.keys fun i p q a b => (hr.2 i p q a b).2
theorem P2.ints {ns : List Int} {xs : List V} (h : P2 (R K F) (ns.map D.int) xs) : xs = ns.map V.int := by
  refine List.ext_getElem? fun i => ?_
  rw [List.getElem?_map]
  cases e : ns[i]? with
  | none =>
    rw [List.getElem?_eq_none_iff] at e
    have := h.1
    rw [List.length_map] at this
    exact List.getElem?_eq_none_iff.mpr (by omega)
  | some n =>
    obtain ⟨y, e2, r⟩ := h.get (i := i) (x := D.int n) (by rw [List.getElem?_map, e]; rfl)
    rw [e2, r.int_inv]; rfl
theorem P2.ofInts (ns : List Int) : P2 (R K F) (ns.map D.int) (ns.map V.int) := by
  refine ⟨by simp, fun i x y a b => ?_⟩
  rw [List.getElem?_map] at a b
  cases e : ns[i]? with
  | none => rw [e] at a; cases a
  | some n => rw [e] at a b; cases a; cases b; exact .int n
theorem P2.bls {bs : List Bool} {xs : List V} (h : P2 (R K F) (bs.map D.bl) xs) : xs = bs.map V.bl := by
  refine List.ext_getElem? fun i => ?_
  rw [List.getElem?_map]
  cases e : bs[i]? with
  | none =>
    rw [List.getElem?_eq_none_iff] at e
    have := h.1
    rw [List.length_map] at this
    exact List.getElem?_eq_none_iff.mpr (by omega)
  | some n =>
    obtain ⟨y, e2, r⟩ := h.get (i := i) (x := D.bl n) (by rw [List.getElem?_map, e]; rfl)
    rw [e2, r.bl_inv]; rfl
end

/-! ### what a name may hold; the mutable cells -/
inductive Rv where
  | dat (d : D) | cel (k : Nat)
inductive MC where
  | lst (ds : List D) | dct (kvs : List (Key × D)) | ins (C : Addr) (fs : List (Str × D)) | gone
abbrev rint (i : Int) : Rv := .dat (.int i)
abbrev rbl (b : Bool) : Rv := .dat (.bl b)
abbrev rstr (s : Str) : Rv := .dat (.str s)
abbrev rnon : Rv := .dat .non
abbrev dints (ns : List Int) : D := .lst (ns.map D.int)
abbrev rints (ns : List Int) : Rv := .dat (.lst (ns.map D.int))
def RV (K : PySem.W.Frag) (F : Hp) (As : List Addr) : Rv → V → Prop
  | .dat d, v => R K F d v
  | .cel k, v => ∃ a, As[k]? = some a ∧ v = .ref a
def MCR (K : PySem.W.Frag) (F : Hp) : MC → HO → Prop
  | .lst ds, o => ∃ xs, o = .lst xs ∧ P2 (R K F) ds xs
  | .dct kvs, o => ∃ ws, o = .dK ws ∧ PK (R K F) kvs ws
  | .ins C fs, o => ∃ dx ws, o = .ins C dx ws ∧ PK (R K F) fs ws
  | .gone, _ => True
/-- what is known of the slots -/
def ES (K : PySem.W.Frag) (F : Hp) (As : List Addr) (σ : St) (E : List (Option Rv)) : Prop :=
  E.length = σ.length ∧ ∀ (i : Nat) (r : Rv), E[i]? = some (some r) → ∃ v, σ[i]? = some (some v) ∧ RV K F As r v
structure Base where
  F0 : Hp
  H0 : Hp
  P : Addr → Prop
  A0 : List Addr
structure Sta (K : PySem.W.Frag) (B : Base) (F : Hp) (As : List Addr) (M : List MC) (σ : St) (E : List (Option Rv)) (H : Hp) : Prop where
  ex : Ex F H
  len : As.length = M.length
  nd : As.Nodup
  cell : ∀ (k : Nat) (a : Addr) (mc : MC), As[k]? = some a → M[k]? = some mc → mc ≠ .gone → F a = none ∧ ∃ o, H a = some o ∧ MCR K F mc o
  slots : ES K F As σ E
  bF : Ex B.F0 F
  bH : ∀ a o, B.H0 a = some o → ¬ B.P a → H a = some o
  bN : ∀ a o, B.H0 a = some o → B.F0 a = none → F a = none
  bA : ∀ a ∈ As, B.P a ∨ B.H0 a = none
  bK : ∀ a o, B.H0 a = some o → ∃ u, H a = some u
  kn : ∀ a ∈ As, ∃ u, H a = some u
  pA : B.A0 <+: As
section
variable {K : PySem.W.Frag} {B : Base} {F F' H H' : Hp} {As As' : List Addr} {M M' : List MC} {σ : St} {E : List (Option Rv)} {r : Rv} {v : V}
theorem RV.mono (h : RV K F As r v) (e : Ex F F') (p : As <+: As') : RV K F' As' r v := by
  cases r with
  | dat d => exact R.mono h e
  | cel k =>
    obtain ⟨a, h1, h2⟩ := h
    obtain ⟨t, rfl⟩ := p
    exact ⟨a, by rw [List.getElem?_append_left (List.getElem?_eq_some_iff.mp h1).1]; exact h1, h2⟩
theorem MCR.mono {mc : MC} {o : HO} (h : MCR K F mc o) (e : Ex F F') : MCR K F' mc o := by
  cases mc with
  | lst ds => obtain ⟨xs, h1, h2⟩ := h; exact ⟨xs, h1, h2.imp fun _ _ z => z.mono e⟩
  | dct kvs => obtain ⟨xs, h1, h2⟩ := h; exact ⟨xs, h1, h2.imp fun _ _ z => ⟨z.1, z.2.mono e⟩⟩
  | ins C fs => obtain ⟨dx, ws, h1, h2⟩ := h; exact ⟨dx, ws, h1, h2.imp fun _ _ z => ⟨z.1, z.2.mono e⟩⟩
  | gone => trivial
theorem ES.mono (h : ES K F As σ E) (e : Ex F F') (p : As <+: As') : ES K F' As' σ E := ⟨h.1, fun i r hi => by
  obtain ⟨v, h1, h2⟩ := h.2 i r hi
  exact ⟨v, h1, h2.mono e p⟩⟩
theorem ES.set (h : ES K F As σ E) {i : Nat} (q : RV K F As r v) : ES K F As (σ.set i (some v)) (E.set i (some r)) := by
  refine ⟨by rw [List.length_set, List.length_set, h.1], fun j r' hj => ?_⟩
  by_cases e : i = j
  · subst e
    have hi : i < E.length := by
      have := (List.getElem?_eq_some_iff.mp hj).1
      rwa [List.length_set] at this
    rw [List.getElem?_set_self hi] at hj
    cases hj
    exact ⟨v, by rw [List.getElem?_set_self (h.1 ▸ hi)], q⟩
  · rw [List.getElem?_set_ne e] at hj
    rw [List.getElem?_set_ne e]
    exact h.2 j r' hj
theorem Sta.fresh (S : Sta K B F As M σ E H) {p : Addr} (hp : H p = none) : F p = none := Evl.fresh_back S.ex hp
theorem Sta.notin (S : Sta K B F As M σ E H) {p : Addr} (hp : H p = none) : ∀ (k : Nat) (a : Addr) (mc : MC), As[k]? = some a → M[k]? = some mc → mc ≠ .gone → a ≠ p := fun k a mc h1 h2 h3 e => by
  obtain ⟨_, o, ho, _⟩ := S.cell k a mc h1 h2 h3
  rw [e, hp] at ho
  cases ho
/-- all cells of the state are live -/
def Live (M : List MC) : Prop := ∀ mc ∈ M, mc ≠ .gone
theorem Live.nil : Live [] := fun _ h => by cases h
/-- what is known of fewer slots -/
def Ele : List (Option Rv) → List (Option Rv) → Prop
  | [], [] => True
  | none :: a, _ :: b => Ele a b
  | some r :: a, x :: b => x = some r ∧ Ele a b
  | _, _ => False
theorem Ele.get : ∀ {E E' : List (Option Rv)} {i : Nat} {r : Rv}, Ele E E' → E[i]? = some (some r) → E'[i]? = some (some r)
  | none :: a, y :: b, 0, r, h, e => by simp at e
  | none :: a, y :: b, i + 1, r, h, e => by
    have h : Ele a b := h
    simpa using h.get (i := i) (by simpa using e)
  | some x :: a, y :: b, 0, r, h, e => by
    have h : y = some x ∧ Ele a b := h
    rw [h.1]; simpa using e
  | some x :: a, y :: b, i + 1, r, h, e => by
    have h : y = some x ∧ Ele a b := h
    simpa using h.2.get (i := i) (by simpa using e)
theorem Ele.length : ∀ {E E' : List (Option Rv)}, Ele E E' → E.length = E'.length
  | [], [], _ => rfl
  | none :: a, y :: b, h => by
    have h : Ele a b := h
    simp [h.length]
  | some x :: a, y :: b, h => by
    have h : y = some x ∧ Ele a b := h
    simp [h.2.length]
theorem Ele.refl : ∀ E : List (Option Rv), Ele E E
  | [] => trivial
  | none :: a => Ele.refl a
  | some _ :: a => ⟨rfl, Ele.refl a⟩
theorem Sta.weak {E' : List (Option Rv)} (S : Sta K B F As M σ E H) (h : Ele E' E) : Sta K B F As M σ E' H :=
  { S with slots := ⟨by rw [h.length]; exact S.slots.1, fun i r hi => S.slots.2 i r (h.get hi)⟩ }
theorem Sta.set (S : Sta K B F As M σ E H) {i : Nat} (q : RV K F As r v) : Sta K B F As M (σ.set i (some v)) (E.set i (some r)) H :=
  { S with slots := S.slots.set q }
theorem prefix_get {i : Nat} {a : Addr} (p : As <+: As') (h : As[i]? = some a) : As'[i]? = some a := by
  obtain ⟨t, rfl⟩ := p
  rw [List.getElem?_append_left (List.getElem?_eq_some_iff.mp h).1]; exact h
theorem Sta.off (S : Sta K B F As M σ E H) {p : Addr} (hp : H p = none) : p ∉ As := fun h => by
  obtain ⟨u, e⟩ := S.kn p h
  rw [hp] at e; cases e
theorem Sta.base_off (S : Sta K B F As M σ E H) {p : Addr} (hp : H p = none) : B.H0 p = none := by
  cases e : B.H0 p with
  | none => rfl
  | some o =>
    obtain ⟨u, e2⟩ := S.bK p o e
    rw [hp] at e2; cases e2
/-- a new frozen object -/
theorem Sta.newF (S : Sta K B F As M σ E H) {p : Addr} {o : HO} (hp : H p = none) : Sta K B (upd F p o) As M σ E (upd H p o) ∧ Ex F (upd F p o) := by
  have ex : Ex F (upd F p o) := Ex.new (S.fresh hp)
  have b0 := S.base_off hp
  refine ⟨⟨fun a u h => ?_, S.len, S.nd, fun k a mc h1 h2 h3 => ?_, S.slots.mono ex (List.prefix_refl _), S.bF.trans ex, fun a u h hP => ?_, fun a u h h0 => ?_, S.bA, fun a u h => ?_, fun a h => ?_, S.pA⟩, ex⟩
  · by_cases e : a = p
    · subst e; rw [upd_same] at h ⊢; exact h
    · rw [upd_ne e] at h ⊢; exact S.ex a u h
  · obtain ⟨h4, o', h5, h6⟩ := S.cell k a mc h1 h2 h3
    have e : a ≠ p := ne_of_none h5 hp
    exact ⟨by rw [upd_ne e]; exact h4, o', by rw [upd_ne e]; exact h5, h6.mono ex⟩
  · have := S.bH a u h hP
    rw [upd_ne (ne_of_none this hp)]; exact this
  · rw [upd_ne (ne_of_none h b0)]; exact S.bN a u h h0
  · obtain ⟨z, e⟩ := S.bK a u h
    exact ⟨z, by rw [upd_ne (ne_of_none e hp)]; exact e⟩
  · obtain ⟨z, e⟩ := S.kn a h
    exact ⟨z, by rw [upd_ne (ne_of_none e hp)]; exact e⟩
theorem getElem?_concat {α : Type} {l : List α} {x y : α} {k : Nat} (h : (l ++ [x])[k]? = some y) : l[k]? = some y ∨ (k = l.length ∧ y = x) := by
  by_cases hk : k < l.length
  · rw [List.getElem?_append_left hk] at h; exact .inl h
  · rw [List.getElem?_append_right (Nat.le_of_not_lt hk)] at h
    have : k - l.length = 0 := by
      have := (List.getElem?_eq_some_iff.mp h).1
      simp at this; omega
    rw [this] at h
    exact .inr ⟨by omega, by simpa using h.symm⟩
/-- a new mutable cell -/
theorem Sta.newM (S : Sta K B F As M σ E H) {p : Addr} {o : HO} {mc : MC} (hp : H p = none) (ho : MCR K F mc o) : Sta K B F (As ++ [p]) (M ++ [mc]) σ E (upd H p o) := by
  have b0 := S.base_off hp
  have hA := S.off hp
  refine ⟨fun a u h => ?_, by rw [List.length_append, List.length_append, S.len]; rfl, ?_, fun k a mc' h1 h2 h3 => ?_, S.slots.mono (Ex.refl F) (List.prefix_append _ _), S.bF, fun a u h hP => ?_, S.bN, fun a h => ?_, fun a u h => ?_, fun a h => ?_, S.pA.trans (List.prefix_append _ _)⟩
  · rw [upd_ne (ne_of_none h (S.fresh hp))]; exact S.ex a u h
  · rw [List.nodup_append]
    refine ⟨S.nd, by simp, fun a ha b hb e => ?_⟩
    simp at hb
    subst e; subst hb; exact hA ha
  · rcases getElem?_concat h1 with q1 | ⟨q1, q2⟩
    · rcases getElem?_concat h2 with q3 | ⟨q3, q4⟩
      · obtain ⟨h4, o', h5, h6⟩ := S.cell k a mc' q1 q3 h3
        exact ⟨h4, o', by rw [upd_ne (ne_of_none h5 hp)]; exact h5, h6⟩
      · have := (List.getElem?_eq_some_iff.mp q1).1
        rw [S.len] at this; omega
    · rcases getElem?_concat h2 with q3 | ⟨q3, q4⟩
      · have := (List.getElem?_eq_some_iff.mp q3).1
        rw [← S.len] at this; omega
      · subst q2; subst q4
        exact ⟨S.fresh hp, o, upd_same, ho⟩
  · have := S.bH a u h hP
    rw [upd_ne (ne_of_none this hp)]; exact this
  · rcases List.mem_append.mp h with h | h
    · exact S.bA a h
    · simp at h; subst h; exact .inr b0
  · obtain ⟨z, e⟩ := S.bK a u h
    exact ⟨z, by rw [upd_ne (ne_of_none e hp)]; exact e⟩
  · rcases List.mem_append.mp h with h | h
    · obtain ⟨z, e⟩ := S.kn a h
      exact ⟨z, by rw [upd_ne (ne_of_none e hp)]; exact e⟩
    · simp at h; subst h; exact ⟨o, upd_same⟩
theorem Sta.uniq (S : Sta K B F As M σ E H) {j k : Nat} {a : Addr} (h1 : As[j]? = some a) (h2 : As[k]? = some a) : j = k := nd_ix S.nd h1 h2
/-- a cell changed -/
theorem Sta.chg (S : Sta K B F As M σ E H) {k : Nat} {a : Addr} {o : HO} {mc0 mc : MC} (ha : As[k]? = some a) (hm : M[k]? = some mc0) (h0 : mc0 ≠ .gone) (ho : MCR K F mc o) : Sta K B F As (M.set k mc) σ E (upd H a o) := by
  obtain ⟨f0, o0, q0, _⟩ := S.cell k a mc0 ha hm h0
  refine ⟨Ex.mut S.ex f0, by rw [List.length_set]; exact S.len, S.nd, fun j b mc' h1 h2 h3 => ?_, S.slots, S.bF, fun b u h hP => ?_, S.bN, S.bA, fun b u h => ?_, fun b h => ?_, S.pA⟩
  · by_cases e : k = j
    · subst e
      rw [ha] at h1; cases h1
      have hk : k < M.length := (List.getElem?_eq_some_iff.mp hm).1
      rw [List.getElem?_set_self hk] at h2
      cases h2
      exact ⟨f0, o, upd_same, ho⟩
    · rw [List.getElem?_set_ne e] at h2
      obtain ⟨h4, o', h5, h6⟩ := S.cell j b mc' h1 h2 h3
      have : b ≠ a := fun z => e (S.uniq ha (z ▸ h1))
      exact ⟨h4, o', by rw [upd_ne this]; exact h5, h6⟩
  · have hb : b ≠ a := by
      intro z; subst z
      rcases S.bA b (List.mem_of_getElem? ha) with hp | hn
      · exact hP hp
      · rw [hn] at h; cases h
    rw [upd_ne hb]; exact S.bH b u h hP
  · by_cases e : b = a
    · subst e; exact ⟨o, upd_same⟩
    · obtain ⟨z, q⟩ := S.bK b u h
      exact ⟨z, by rw [upd_ne e]; exact q⟩
  · by_cases e : b = a
    · subst e; exact ⟨o, upd_same⟩
    · obtain ⟨z, q⟩ := S.kn b h
      exact ⟨z, by rw [upd_ne e]; exact q⟩
/-- a cell of the def's own is frozen -/
theorem Sta.frz (S : Sta K B F As M σ E H) {k : Nat} {a : Addr} {o : HO} {mc : MC} (ha : As[k]? = some a) (hm : M[k]? = some mc) (h0 : mc ≠ .gone) (ho : H a = some o) (hP : B.H0 a = none) : Sta K B (L2.upd F a o) As (M.set k .gone) σ E H ∧ Ex F (L2.upd F a o) := by
  obtain ⟨f0, o0, q0, _⟩ := S.cell k a mc ha hm h0
  have ex : Ex F (L2.upd F a o) := Ex.new f0
  refine ⟨⟨fun b u h => ?_, by rw [List.length_set]; exact S.len, S.nd, fun j b mc' h1 h2 h3 => ?_, S.slots.mono ex (List.prefix_refl _), S.bF.trans ex, S.bH, fun b u h h1 => ?_, S.bA, S.bK, S.kn, S.pA⟩, ex⟩
  · by_cases e : b = a
    · subst e; rw [upd_same] at h; rw [← h]; exact ho
    · rw [upd_ne e] at h; exact S.ex b u h
  · have hk : k < M.length := (List.getElem?_eq_some_iff.mp hm).1
    by_cases e : k = j
    · subst e
      rw [List.getElem?_set_self hk] at h2
      cases h2
      exact absurd rfl h3
    · rw [List.getElem?_set_ne e] at h2
      obtain ⟨h4, o', h5, h6⟩ := S.cell j b mc' h1 h2 h3
      have : b ≠ a := fun z => e (S.uniq ha (z ▸ h1))
      exact ⟨by rw [upd_ne this]; exact h4, o', h5, h6.mono ex⟩
  · rw [upd_ne (fun z => by rw [z, hP] at h; cases h)]; exact S.bN b u h h1
/-- the state as a base of its own -/
def Sta.self (F H : Hp) (As : List Addr) : Base := ⟨F, H, (· ∈ As), As⟩
theorem Sta.toSelf (S : Sta K B F As M σ E H) (hL : Live M) : Sta K (Sta.self F H As) F As M σ E H :=
  ⟨S.ex, S.len, S.nd, S.cell, S.slots, Ex.refl F, fun a o h _ => h, fun a o _ h => h, fun a h => .inl h, fun a o h => ⟨o, h⟩, S.kn, List.prefix_refl _⟩
theorem Sta.rebase {σ' : St} {E' : List (Option Rv)} (S : Sta K B F As M σ E H) (S' : Sta K (Sta.self F H As) F' As' M' σ' E' H') : Sta K B F' As' M' σ' E' H' := by
  refine ⟨S'.ex, S'.len, S'.nd, S'.cell, S'.slots, S.bF.trans S'.bF, fun a o h hP => ?_, fun a o h h0 => ?_, fun a h => ?_, fun a o h => ?_, S'.kn, S.pA.trans S'.pA⟩
  · refine S'.bH a o (S.bH a o h hP) fun hA => ?_
    rcases S.bA a hA with q | q
    · exact hP q
    · rw [q] at h; cases h
  · obtain ⟨u, e⟩ := S.bK a o h
    exact S'.bN a u e (S.bN a o h h0)
  · rcases S'.bA a h with q | q
    · exact S.bA a q
    · exact .inr (S.base_off q)
  · obtain ⟨u, e⟩ := S.bK a o h
    exact S'.bK a u e
end
end DL
set_option Elab.async false
set_option linter.all false
set_option maxRecDepth 100000
set_option maxHeartbeats 2000000
/-! DL, second part: what an expression, a test, a list of arguments is worth, by data alone. -/
namespace DL
open PySem L2
open Evl (Ex)

def EvD (K : PySem.W.Frag) (te : TE) (M : List MC) (E : List (Option Rv)) (M' : List MC) (r : Rv) : Prop :=
  ∀ (B : Base) (F : Hp) (As : List Addr) (σ : St) (H : Hp), Sta K B F As M σ E H → ∀ Q : VK, (∀ v F' As' H', Sta K B F' As' M' σ E H' → Ex F F' → As <+: As' → RV K F' As' r v → Q v H') → te σ H Q
def EvT (K : PySem.W.Frag) (tt : TT) (M : List MC) (E : List (Option Rv)) (M' : List MC) (b : Bool) : Prop :=
  ∀ (B : Base) (F : Hp) (As : List Addr) (σ : St) (H : Hp), Sta K B F As M σ E H → ∀ Q : Bool → Hp → Prop, (∀ F' As' H', Sta K B F' As' M' σ E H' → Ex F F' → As <+: As' → Q b H') → tt σ H Q
def EvA (K : PySem.W.Frag) (ta : TA) (M : List MC) (E : List (Option Rv)) (M' : List MC) (rs : List Rv) : Prop :=
  ∀ (B : Base) (F : Hp) (As : List Addr) (σ : St) (H : Hp), Sta K B F As M σ E H → ∀ Q : List V → Hp → Prop, (∀ vs F' As' H', Sta K B F' As' M' σ E H' → Ex F F' → As <+: As' → P2 (RV K F' As') rs vs → Q vs H') → ta σ H Q
def EvO (K : PySem.W.Frag) (to : TO) (M : List MC) (E : List (Option Rv)) (M' : List MC) (o : Option Int) : Prop :=
  ∀ (B : Base) (F : Hp) (As : List Addr) (σ : St) (H : Hp), Sta K B F As M σ E H → ∀ Q : Option Int → Hp → Prop, (∀ F' As' H', Sta K B F' As' M' σ E H' → Ex F F' → As <+: As' → Q o H') → to σ H Q
/-- an operator by values -/
def OpD (K : PySem.W.Frag) (op : R2) (M : List MC) (x y : Rv) (M' : List MC) (z : Rv) : Prop :=
  ∀ (B : Base) (F : Hp) (As : List Addr) (σ : St) (E : List (Option Rv)) (H : Hp) (v w : V), Sta K B F As M σ E H → RV K F As x v → RV K F As y w → ∀ Q : VK, (∀ u F' As' H', Sta K B F' As' M' σ E H' → Ex F F' → As <+: As' → RV K F' As' z u → Q u H') → op v w H Q
def UnD (K : PySem.W.Frag) (op : V → Hp → VK → Prop) (M : List MC) (x : Rv) (M' : List MC) (z : Rv) : Prop :=
  ∀ (B : Base) (F : Hp) (As : List Addr) (σ : St) (E : List (Option Rv)) (H : Hp) (v : V), Sta K B F As M σ E H → RV K F As x v → ∀ Q : VK, (∀ u F' As' H', Sta K B F' As' M' σ E H' → Ex F F' → As <+: As' → RV K F' As' z u → Q u H') → op v H Q
def CaD (K : PySem.W.Frag) (op : List V → Hp → VK → Prop) (M : List MC) (xs : List Rv) (M' : List MC) (z : Rv) : Prop :=
  ∀ (B : Base) (F : Hp) (As : List Addr) (σ : St) (E : List (Option Rv)) (H : Hp) (vs : List V), Sta K B F As M σ E H → P2 (RV K F As) xs vs → ∀ Q : VK, (∀ u F' As' H', Sta K B F' As' M' σ E H' → Ex F F' → As <+: As' → RV K F' As' z u → Q u H') → op vs H Q
def MeD (K : PySem.W.Frag) (op : V → List V → Hp → VK → Prop) (M : List MC) (x : Rv) (xs : List Rv) (M' : List MC) (z : Rv) : Prop :=
  ∀ (B : Base) (F : Hp) (As : List Addr) (σ : St) (E : List (Option Rv)) (H : Hp) (v : V) (vs : List V), Sta K B F As M σ E H → RV K F As x v → P2 (RV K F As) xs vs → ∀ Q : VK, (∀ u F' As' H', Sta K B F' As' M' σ E H' → Ex F F' → As <+: As' → RV K F' As' z u → Q u H') → op v vs H Q

section
variable {K : PySem.W.Frag} {M M0 M1 M2 M3 M' : List MC} {E : List (Option Rv)} {ta tb te tx : TE} {x y z r : Rv} {op : R2} {xs rs : List Rv} {b : Bool}
theorem RV.m {F F' : Hp} {As As' : List Addr} {v : V} (h : RV K F As r v) (e : Ex F F') (p : As <+: As') : RV K F' As' r v := h.mono e p
theorem P2.m {F F' : Hp} {As As' : List Addr} {vs : List V} (h : P2 (RV K F As) rs vs) (e : Ex F F') (p : As <+: As') : P2 (RV K F' As') rs vs := h.imp fun _ _ q => q.mono e p
/-! ### the making of these -/
theorem ev_var {i : Nat} (h : E[i]? = some (some r)) : EvD K (tVar i) M E M r := fun B F As σ H S Q q => by
  obtain ⟨v, e, rv⟩ := S.slots.2 i r h
  exact ⟨v, e, q v F As H S (Ex.refl F) (List.prefix_refl _) rv⟩
theorem ev_c {v : V} {d : D} (h : ∀ F, R K F d v) : EvD K (tC v) M E M (.dat d) := fun B F As σ H S Q q => q v F As H S (Ex.refl F) (List.prefix_refl _) (h F)
theorem ev_int {i : Int} : EvD K (tC (.int i)) M E M (rint i) := ev_c fun _ => .int i
theorem ev_bl {i : Bool} : EvD K (tC (.bl i)) M E M (rbl i) := ev_c fun _ => .bl i
theorem ev_str {s : Str} : EvD K (tC (.str s)) M E M (rstr s) := ev_c fun _ => .str s
theorem ev_non : EvD K (tC .non) M E M rnon := ev_c fun _ => .non
theorem ev_op (ha : EvD K ta M E M1 x) (hb : EvD K tb M1 E M2 y) (hr : OpD K op M2 x y M3 z) : EvD K (tOp op ta tb) M E M3 z := fun B F As σ H S Q q =>
  ha B F As σ H S _ fun v F1 As1 H1 S1 e1 p1 r1 => hb B F1 As1 σ H1 S1 _ fun w F2 As2 H2 S2 e2 p2 r2 =>
    hr B F2 As2 σ E H2 v w S2 (r1.m e2 p2) r2 Q fun u F3 As3 H3 S3 e3 p3 r3 => q u F3 As3 H3 S3 (e1.trans (e2.trans e3)) (p1.trans (p2.trans p3)) r3
theorem ev_un {f : V → Hp → VK → Prop} (ha : EvD K ta M E M1 x) (hr : UnD K f M1 x M2 z) : EvD K (tUn f ta) M E M2 z := fun B F As σ H S Q q =>
  ha B F As σ H S _ fun v F1 As1 H1 S1 e1 p1 r1 => hr B F1 As1 σ E H1 v S1 r1 Q fun u F3 As3 H3 S3 e3 p3 r3 => q u F3 As3 H3 S3 (e1.trans e3) (p1.trans p3) r3
theorem ea_nil : EvA K tNil M E M [] := fun B F As σ H S Q q => q [] F As H S (Ex.refl F) (List.prefix_refl _) P2.nil
theorem ea_cons {t : TA} (ha : EvD K ta M E M1 x) (h : EvA K t M1 E M2 xs) : EvA K (tCons ta t) M E M2 (x :: xs) := fun B F As σ H S Q q =>
  ha B F As σ H S _ fun v F1 As1 H1 S1 e1 p1 r1 => h B F1 As1 σ H1 S1 _ fun vs F2 As2 H2 S2 e2 p2 r2 => q _ F2 As2 H2 S2 (e1.trans e2) (p1.trans p2) (P2.cons (r1.m e2 p2) r2)
theorem ev_cb {f : List V → Hp → VK → Prop} {t : TA} (ha : EvA K t M E M1 xs) (hr : CaD K f M1 xs M2 z) : EvD K (tCB f t) M E M2 z := fun B F As σ H S Q q =>
  ha B F As σ H S _ fun v F1 As1 H1 S1 e1 p1 r1 => hr B F1 As1 σ E H1 v S1 r1 Q fun u F3 As3 H3 S3 e3 p3 r3 => q u F3 As3 H3 S3 (e1.trans e3) (p1.trans p3) r3
/-- the state's lists -/
def IsLst (M : List MC) (r : Rv) (ds : List D) : Prop := r = .dat (.lst ds) ∨ ∃ k, r = .cel k ∧ M[k]? = some (.lst ds)
def IsDct (M : List MC) (r : Rv) (kvs : List (Key × D)) : Prop := r = .dat (.dct kvs) ∨ ∃ k, r = .cel k ∧ M[k]? = some (.dct kvs)
theorem IsLst.view {B : Base} {F H : Hp} {As : List Addr} {σ : St} {ds : List D} {v : V} (h : IsLst M r ds) (S : Sta K B F As M σ E H) (q : RV K F As r v) : ∃ a vs, v = .ref a ∧ H a = some (.lst vs) ∧ P2 (R K F) ds vs := by
  rcases h with rfl | ⟨k, rfl, hk⟩
  · obtain ⟨a, vs, h1, h2, h3⟩ := R.lst_inv q
    exact ⟨a, vs, h1, S.ex _ _ h2, h3⟩
  · obtain ⟨a, ha, hv⟩ := q
    obtain ⟨_, o, ho, vs, rfl, h3⟩ := S.cell k a _ ha hk (by intro z; cases z)
    exact ⟨a, vs, hv, ho, h3⟩
theorem IsDct.view {B : Base} {F H : Hp} {As : List Addr} {σ : St} {kvs : List (Key × D)} {v : V} (h : IsDct M r kvs) (S : Sta K B F As M σ E H) (q : RV K F As r v) : ∃ a ws, v = .ref a ∧ H a = some (.dK ws) ∧ PK (R K F) kvs ws := by
  rcases h with rfl | ⟨k, rfl, hk⟩
  · obtain ⟨a, vs, h1, h2, h3⟩ := R.dct_inv q
    exact ⟨a, vs, h1, S.ex _ _ h2, h3⟩
  · obtain ⟨a, ha, hv⟩ := q
    obtain ⟨_, o, ho, vs, rfl, h3⟩ := S.cell k a _ ha hk (by intro z; cases z)
    exact ⟨a, vs, hv, ho, h3⟩
theorem sz {n : Nat} (h : n ≤ 16777216) : n ≤ sizeLine := by rw [sizeLine_eq]; exact h
theorem szlt {n : Nat} (h : n < 16777216) : n < sizeLine := by rw [sizeLine_eq]; exact h
theorem P2.dats {F : Hp} {As : List Addr} {ds : List D} {vs : List V} (h : P2 (RV K F As) (ds.map Rv.dat) vs) : P2 (R K F) ds vs :=
  ⟨by have := h.1; rwa [List.length_map] at this, fun i d v a b => h.2 i (.dat d) v (by rw [List.getElem?_map, a]; rfl) b⟩
/-- all arguments are data -/
def dats : List Rv → Option (List D)
  | [] => some []
  | .dat d :: rs => (dats rs).map (d :: ·)
  | .cel _ :: _ => none
theorem dats_eq : ∀ {rs : List Rv} {ds : List D}, dats rs = some ds → rs = ds.map Rv.dat
  | [], ds, h => by cases h; rfl
  | .dat d :: rs, ds, h => by
    unfold dats at h
    cases e : dats rs with
    | none => rw [e] at h; cases h
    | some es => rw [e] at h; cases h; rw [dats_eq e]; rfl
  | .cel _ :: _, ds, h => by cases h
theorem ev_tup {t : TA} {ds : List D} (ha : EvA K t M E M1 rs) (hd : dats rs = some ds) (hl : rs.length ≤ 16777216) : EvD K (tTup t) M E M1 (.dat (.tup ds)) := fun B F As σ H S Q q =>
  ha B F As σ H S _ fun vs F1 As1 H1 S1 e1 p1 r1 => ⟨sz (r1.1 ▸ hl), fun p hp => by
    obtain ⟨S2, e2⟩ := S1.newF (o := .tup vs) hp
    rw [dats_eq hd] at r1
    exact q _ _ As1 _ S2 (e1.trans e2) p1 (R.tup' upd_same (r1.dats.imp fun _ _ z => z.mono e2))⟩
theorem ev_lst {t : TA} {ds : List D} (ha : EvA K t M E M1 rs) (hd : dats rs = some ds) (hl : rs.length ≤ 16777216) : EvD K (tLst t) M E M1 (.dat (.lst ds)) := fun B F As σ H S Q q =>
  ha B F As σ H S _ fun vs F1 As1 H1 S1 e1 p1 r1 => ⟨sz (r1.1 ▸ hl), fun p hp => by
    obtain ⟨S2, e2⟩ := S1.newF (o := .lst vs) hp
    rw [dats_eq hd] at r1
    exact q _ _ As1 _ S2 (e1.trans e2) p1 (R.lst' upd_same (r1.dats.imp fun _ _ z => z.mono e2))⟩
/-- a display that will be changed: a new cell -/
theorem ev_lstM {t : TA} {ds : List D} (ha : EvA K t M E M1 rs) (hd : dats rs = some ds) (hl : rs.length ≤ 16777216) : EvD K (tLst t) M E (M1 ++ [.lst ds]) (.cel M1.length) := fun B F As σ H S Q q =>
  ha B F As σ H S _ fun vs F1 As1 H1 S1 e1 p1 r1 => ⟨sz (r1.1 ▸ hl), fun p hp => by
    rw [dats_eq hd] at r1
    have S2 := S1.newM (o := .lst vs) (mc := .lst ds) hp ⟨vs, rfl, r1.dats⟩
    exact q _ _ _ _ S2 e1 (p1.trans (List.prefix_append _ _)) ⟨p, by rw [List.getElem?_append_right (by rw [S1.len]; exact Nat.le_refl _), S1.len]; simp, rfl⟩⟩
theorem ev_dnewM : EvD K tDNewK M E (M ++ [.dct []]) (.cel M.length) := fun B F As σ H S Q q p hp => by
  have S2 := S.newM (o := .dK []) (mc := .dct []) hp ⟨[], rfl, P2.nil⟩
  exact q _ _ _ _ S2 (Ex.refl F) (List.prefix_append _ _) ⟨p, by rw [List.getElem?_append_right (by rw [S.len]; exact Nat.le_refl _), S.len]; simp, rfl⟩
theorem ev_dnew : EvD K tDNewK M E M (.dat (.dct [])) := fun B F As σ H S Q q p hp => by
  obtain ⟨S2, e2⟩ := S.newF (o := .dK []) hp
  exact q _ _ As _ S2 e2 (List.prefix_refl _) (R.dct' upd_same P2.nil)
/-! ### tests -/
theorem et_test (h : EvD K te M E M1 (rbl b)) : EvT K (tTest te) M E M1 b := fun B F As σ H S Q q => h B F As σ H S _ fun v F1 As1 H1 S1 e1 p1 r1 => ⟨b, R.bl_inv r1, q F1 As1 H1 S1 e1 p1⟩
theorem et_B (h : EvD K te M E M1 (rbl b)) : EvT K (tB te) M E M1 b := fun B F As σ H S Q q => h B F As σ H S _ fun v F1 As1 H1 S1 e1 p1 r1 => ⟨b, R.bl_inv r1, q F1 As1 H1 S1 e1 p1⟩
theorem et_and {t u : TT} {c : Bool} (h1 : EvT K t M E M1 b) (h2 : b = true → EvT K u M1 E M1 c) : EvT K (tAnd t u) M E M1 (b && c) := fun B F As σ H S Q q => h1 B F As σ H S _ fun F1 As1 H1 S1 e1 p1 => by
  cases b with
  | true => exact h2 rfl B F1 As1 σ H1 S1 Q fun F2 As2 H2 S2 e2 p2 => q F2 As2 H2 S2 (e1.trans e2) (p1.trans p2)
  | false => exact q F1 As1 H1 S1 e1 p1
theorem et_or {t u : TT} {c : Bool} (h1 : EvT K t M E M1 b) (h2 : b = false → EvT K u M1 E M1 c) : EvT K (tOr t u) M E M1 (b || c) := fun B F As σ H S Q q => h1 B F As σ H S _ fun F1 As1 H1 S1 e1 p1 => by
  cases b with
  | true => exact q F1 As1 H1 S1 e1 p1
  | false => exact h2 rfl B F1 As1 σ H1 S1 Q fun F2 As2 H2 S2 e2 p2 => q F2 As2 H2 S2 (e1.trans e2) (p1.trans p2)
theorem et_not {t : TT} (h : EvT K t M E M1 b) : EvT K (tNot t) M E M1 (!b) := fun B F As σ H S Q q => h B F As σ H S _ fun F1 As1 H1 S1 e1 p1 => q F1 As1 H1 S1 e1 p1
theorem et_is {t : TT} {c : Bool} (h : EvT K t M E M1 b) (e : b = c) : EvT K t M E M1 c := e ▸ h
theorem ev_is {r' : Rv} (h : EvD K te M E M1 r) (e : r = r') : EvD K te M E M1 r' := e ▸ h
theorem ev_isM {M' : List MC} (h : EvD K te M E M1 r) (e : M1 = M') : EvD K te M E M' r := e ▸ h
theorem ev_andV {c : Bool} (h1 : EvD K ta M E M1 (rbl b)) (h2 : b = true → EvD K tb M1 E M1 (rbl c)) : EvD K (tAndV ta tb) M E M1 (rbl (b && c)) := fun B F As σ H S Q q => h1 B F As σ H S _ fun v F1 As1 H1 S1 e1 p1 r1 => ⟨b, R.bl_inv r1, by
  cases b with
  | true => exact h2 rfl B F1 As1 σ H1 S1 Q fun v F2 As2 H2 S2 e2 p2 r2 => q v F2 As2 H2 S2 (e1.trans e2) (p1.trans p2) r2
  | false => exact q _ F1 As1 H1 S1 e1 p1 (.bl _)⟩
theorem ev_orV {c : Bool} (h1 : EvD K ta M E M1 (rbl b)) (h2 : b = false → EvD K tb M1 E M1 (rbl c)) : EvD K (tOrV ta tb) M E M1 (rbl (b || c)) := fun B F As σ H S Q q => h1 B F As σ H S _ fun v F1 As1 H1 S1 e1 p1 r1 => ⟨b, R.bl_inv r1, by
  cases b with
  | true => exact q _ F1 As1 H1 S1 e1 p1 (.bl _)
  | false => exact h2 rfl B F1 As1 σ H1 S1 Q fun v F2 As2 H2 S2 e2 p2 r2 => q v F2 As2 H2 S2 (e1.trans e2) (p1.trans p2) r2⟩
theorem ev_notV (h1 : EvD K ta M E M1 (rbl b)) : EvD K (tNotV ta) M E M1 (rbl (!b)) := fun B F As σ H S Q q => h1 B F As σ H S _ fun v F1 As1 H1 S1 e1 p1 r1 => ⟨b, R.bl_inv r1, q _ F1 As1 H1 S1 e1 p1 (.bl _)⟩
theorem ev_if {t : TT} (h : EvT K t M E M1 b) (h1 : b = true → EvD K ta M1 E M2 r) (h2 : b = false → EvD K tb M1 E M2 r) : EvD K (tIf t ta tb) M E M2 r := fun B F As σ H S Q q => h B F As σ H S _ fun F1 As1 H1 S1 e1 p1 => by
  cases b with
  | true => exact h1 rfl B F1 As1 σ H1 S1 Q fun v F2 As2 H2 S2 e2 p2 r2 => q v F2 As2 H2 S2 (e1.trans e2) (p1.trans p2) r2
  | false => exact h2 rfl B F1 As1 σ H1 S1 Q fun v F2 As2 H2 S2 e2 p2 r2 => q v F2 As2 H2 S2 (e1.trans e2) (p1.trans p2) r2
/-- both ways are data and leave the cells -/
theorem ev_ifD {t : TT} {d e : D} (h : EvT K t M E M1 b) (h1 : b = true → EvD K ta M1 E M1 (.dat d)) (h2 : b = false → EvD K tb M1 E M1 (.dat e)) : EvD K (tIf t ta tb) M E M1 (.dat (if b = true then d else e)) :=
  ev_if h (fun hb => by rw [if_pos hb]; exact h1 hb) (fun hb => by rw [if_neg (by rw [hb]; exact Bool.false_ne_true)]; exact h2 hb)
theorem ev_ifI {t : TT} {d e : Int} (h : EvT K t M E M1 b) (h1 : b = true → EvD K ta M1 E M1 (rint d)) (h2 : b = false → EvD K tb M1 E M1 (rint e)) : EvD K (tIf t ta tb) M E M1 (rint (if b = true then d else e)) :=
  ev_if h (fun hb => by rw [if_pos hb]; exact h1 hb) (fun hb => by rw [if_neg (by rw [hb]; exact Bool.false_ne_true)]; exact h2 hb)
def Rv.isNon : Rv → Bool
  | .dat .non => true
  | _ => false
theorem RV.isNon {F : Hp} {As : List Addr} {v : V} (h : RV K F As r v) : decide (v = .non) = r.isNon := by
  cases r with
  | cel k => obtain ⟨a, _, rfl⟩ := h; rfl
  | dat d =>
    have h : R K F d v := h
    cases h <;> rfl
theorem ev_isN (h : EvD K ta M E M1 r) : EvD K (tIsN ta) M E M1 (rbl r.isNon) := fun B F As σ H S Q q => h B F As σ H S _ fun v F1 As1 H1 S1 e1 p1 r1 => q _ F1 As1 H1 S1 e1 p1 (by
  show R K F1 (.bl r.isNon) (.bl (decide (v = .non)))
  rw [r1.isNon]; exact .bl _)
theorem ev_notN (h : EvD K ta M E M1 r) : EvD K (tNotN ta) M E M1 (rbl (!r.isNon)) := fun B F As σ H S Q q => h B F As σ H S _ fun v F1 As1 H1 S1 e1 p1 r1 => q _ F1 As1 H1 S1 e1 p1 (by
  show R K F1 (.bl (!r.isNon)) (.bl (!decide (v = .non)))
  rw [r1.isNon]; exact .bl _)
/-! ### operators -/
/-- an operator that leaves the heap -/
theorem OpD.pure (h : ∀ (B : Base) (F H : Hp) (As : List Addr) (σ : St) (E : List (Option Rv)) (v w : V), Sta K B F As M σ E H → RV K F As x v → RV K F As y w → ∀ Q : VK, (∀ u, RV K F As z u → Q u H) → op v w H Q) : OpD K op M x y M z :=
  fun B F As σ E H v w S r1 r2 Q q => h B F H As σ E v w S r1 r2 Q fun u ru => q u F As H S (Ex.refl F) (List.prefix_refl _) ru
theorem od_I0 {g : Int → Int → V} {i j : Int} {d : D} (h : ∀ F, R K F d (g i j)) : OpD K (rI0 g) M (rint i) (rint j) M (.dat d) :=
  OpD.pure fun B F H As σ E v w S r1 r2 Q q => ⟨i, j, R.int_inv r1, R.int_inv r2, q _ (h F)⟩
theorem od_I {C : Int → Int → Prop} {g : Int → Int → V} {i j : Int} {d : D} (hc : C i j) (h : ∀ F, R K F d (g i j)) : OpD K (rI C g) M (rint i) (rint j) M (.dat d) :=
  OpD.pure fun B F H As σ E v w S r1 r2 Q q => ⟨i, j, R.int_inv r1, R.int_inv r2, hc, q _ (h F)⟩
theorem od_int {g : Int → Int → Int} {i j : Int} : OpD K (rI0 fun i j => .int (g i j)) M (rint i) (rint j) M (rint (g i j)) := od_I0 fun _ => .int _
theorem od_bool {g : Int → Int → Bool} {i j : Int} : OpD K (rI0 fun i j => .bl (g i j)) M (rint i) (rint j) M (rbl (g i j)) := od_I0 fun _ => .bl _
theorem od_intC {C : Int → Int → Prop} {g : Int → Int → Int} {i j : Int} (hc : C i j) : OpD K (rI C fun i j => .int (g i j)) M (rint i) (rint j) M (rint (g i j)) := od_I hc fun _ => .int _
theorem od_eqI {i j : Int} : OpD K rEq M (rint i) (rint j) M (rbl (decide (i = j))) := OpD.pure fun B F H As σ E v w S r1 r2 Q q => by
  cases R.int_inv r1; cases R.int_inv r2
  exact ⟨rfl, q _ (by
    show R K F (.bl (decide (i = j))) (.bl (decide (V.int i = V.int j)))
    rw [show decide (V.int i = V.int j) = decide (i = j) by rw [Bool.eq_iff_iff]; simp]; exact .bl _)⟩
theorem od_neI {i j : Int} : OpD K rNe M (rint i) (rint j) M (rbl (!decide (i = j))) := OpD.pure fun B F H As σ E v w S r1 r2 Q q => by
  cases R.int_inv r1; cases R.int_inv r2
  exact ⟨rfl, q _ (by
    show R K F (.bl (!decide (i = j))) (.bl (!decide (V.int i = V.int j)))
    rw [show decide (V.int i = V.int j) = decide (i = j) by rw [Bool.eq_iff_iff]; simp]; exact .bl _)⟩
theorem od_eqS {i j : Str} : OpD K rEq M (rstr i) (rstr j) M (rbl (decide (i = j))) := OpD.pure fun B F H As σ E v w S r1 r2 Q q => by
  cases R.str_inv r1; cases R.str_inv r2
  exact ⟨rfl, q _ (by
    show R K F (.bl (decide (i = j))) (.bl (decide (V.str i = V.str j)))
    rw [show decide (V.str i = V.str j) = decide (i = j) by rw [Bool.eq_iff_iff]; simp]; exact .bl _)⟩
theorem od_neS {i j : Str} : OpD K rNe M (rstr i) (rstr j) M (rbl (!decide (i = j))) := OpD.pure fun B F H As σ E v w S r1 r2 Q q => by
  cases R.str_inv r1; cases R.str_inv r2
  exact ⟨rfl, q _ (by
    show R K F (.bl (!decide (i = j))) (.bl (!decide (V.str i = V.str j)))
    rw [show decide (V.str i = V.str j) = decide (i = j) by rw [Bool.eq_iff_iff]; simp]; exact .bl _)⟩
theorem od_eqB {i j : Bool} : OpD K rEq M (rbl i) (rbl j) M (rbl (decide (i = j))) := OpD.pure fun B F H As σ E v w S r1 r2 Q q => by
  cases R.bl_inv r1; cases R.bl_inv r2
  exact ⟨rfl, q _ (by
    show R K F (.bl (decide (i = j))) (.bl (decide (V.bl i = V.bl j)))
    rw [show decide (V.bl i = V.bl j) = decide (i = j) by rw [Bool.eq_iff_iff]; simp]; exact .bl _)⟩
theorem ud_neg {i : Int} : UnD K (rU fun i => .int (-i)) M (rint i) M (rint (-i)) := fun B F As σ E H v S r1 Q q => ⟨i, R.int_inv r1, q _ F As H S (Ex.refl F) (List.prefix_refl _) (.int _)⟩
/-! ### places -/
theorem od_ixL {ds : List D} {i : Int} {d : D} (h : IsLst M x ds) (ha : atI ds i = some d) : OpD K (rIxL K) M x (rint i) M (.dat d) := OpD.pure fun B F H As σ E v w S r1 r2 Q q => by
  obtain ⟨a, vs, rfl, h2, h3⟩ := h.view S r1
  cases R.int_inv r2
  unfold atI at ha
  rw [h3.1] at ha
  cases e : ixN vs.length i with
  | none => rw [e] at ha; cases ha
  | some j =>
    rw [e] at ha
    obtain ⟨u, hu, ru⟩ := h3.get (show ds[j]? = some d from ha)
    exact ⟨a, vs, i, u, rfl, rfl, SqL.of h2, by unfold atI; rw [e]; exact hu, q u ru⟩
theorem od_ixT {ds : List D} {i : Int} {d : D} (ha : atI ds i = some d) : OpD K (rIxT K) M (.dat (.tup ds)) (rint i) M (.dat d) := OpD.pure fun B F H As σ E v w S r1 r2 Q q => by
  obtain ⟨a, vs, rfl, h2, h3⟩ := R.tup_inv r1
  cases R.int_inv r2
  unfold atI at ha
  rw [h3.1] at ha
  cases e : ixN vs.length i with
  | none => rw [e] at ha; cases ha
  | some j =>
    rw [e] at ha
    obtain ⟨u, hu, ru⟩ := h3.get (show ds[j]? = some d from ha)
    exact ⟨a, vs, i, u, rfl, rfl, SqT.of (S.ex _ _ h2), by unfold atI; rw [e]; exact hu, q u ru⟩
theorem atI_of {α : Type} {xs : List α} {i : Int} {x : α} (h0 : 0 ≤ i) (h : xs[i.toNat]? = some x) : atI xs i = some x := by
  have := (List.getElem?_eq_some_iff.mp h).1
  unfold atI ixN
  rw [if_pos h0, if_pos (by omega)]
  exact h
/-- the number at a place -/
def gI (ns : List Int) (i : Int) : Int := ns.getD i.toNat 0
theorem gI_at {ns : List Int} {i : Int} (h0 : 0 ≤ i) (h1 : i < ns.length) : atI (ns.map D.int) i = some (.int (gI ns i)) := by
  refine atI_of h0 ?_
  have h : i.toNat < ns.length := by omega
  rw [List.getElem?_map, List.getElem?_eq_getElem h]
  show some (D.int _) = some (D.int (ns.getD i.toNat 0))
  rw [List.getD_eq_getElem?_getD, List.getElem?_eq_getElem h]; rfl
theorem od_ixI {ns : List Int} {i : Int} (h : IsLst M x (ns.map D.int)) (h0 : 0 ≤ i) (h1 : i < ns.length) : OpD K (rIxL K) M x (rint i) M (rint (gI ns i)) := od_ixL h (gI_at h0 h1)
theorem od_ixScr {ns : List Int} {i : Int} (h0 : 0 ≤ i) (h1 : i < ns.length) : OpD K (rIxL K) M (.dat (.scr ns)) (rint i) M (rint (gI ns i)) := OpD.pure fun B F H As σ E v w S r1 r2 Q q => by
  obtain ⟨a, rfl, h2⟩ := R.scr_inv r1
  cases R.int_inv r2
  refine ⟨a, _, i, .int (gI ns i), rfl, rfl, Evl.ex_l S.ex h2, atI_of h0 ?_, q _ (.int _)⟩
  have h : i.toNat < ns.length := by omega
  rw [List.getElem?_map, List.getElem?_eq_getElem h]
  show some (V.int _) = some (V.int (ns.getD i.toNat 0))
  rw [List.getD_eq_getElem?_getD, List.getElem?_eq_getElem h]; rfl
/-! ### lists made of lists -/
theorem ev_lstNew {B : Base} {F H : Hp} {As : List Addr} {σ : St} {ds : List D} {vs : List V} {p : Addr} (S : Sta K B F As M σ E H) (hp : H p = none) (h : P2 (R K F) ds vs) {Q : VK} (q : ∀ u F' As' H', Sta K B F' As' M σ E H' → Ex F F' → As <+: As' → RV K F' As' (.dat (.lst ds)) u → Q u H') : Q (.ref p) (upd H p (.lst vs)) := by
  obtain ⟨S2, e2⟩ := S.newF (o := .lst vs) hp
  exact q _ _ As _ S2 e2 (List.prefix_refl _) (R.lst' upd_same (h.imp fun _ _ z => z.mono e2))
theorem od_cat {ds es : List D} (h1 : IsLst M x ds) (h2 : IsLst M y es) (hl : ds.length + es.length ≤ 16777216) : OpD K rCat M x y M (.dat (.lst (ds ++ es))) := fun B F As σ E H v w S r1 r2 Q q => by
  obtain ⟨a, vs, rfl, ha, pa⟩ := h1.view S r1
  obtain ⟨c, ws, rfl, hc, pc⟩ := h2.view S r2
  exact ⟨a, c, vs, ws, rfl, rfl, ha, hc, sz (by rw [← pa.1, ← pc.1]; exact hl), fun p hp => ev_lstNew S hp (pa.append pc) q⟩
def repD (ds : List D) (n : Nat) : List D := (List.replicate n ds).flatten
theorem P2.rep {F : Hp} {ds : List D} {vs : List V} (h : P2 (R K F) ds vs) : ∀ n : Nat, P2 (R K F) (List.replicate n ds).flatten (List.replicate n vs).flatten
  | 0 => P2.nil
  | n + 1 => by
    rw [List.replicate_succ, List.flatten_cons, List.replicate_succ, List.flatten_cons]
    exact h.append (P2.rep h n)
end
end DL
set_option Elab.async false
set_option linter.all false
set_option maxRecDepth 100000
set_option maxHeartbeats 2000000
/-! DL, third part: built-ins, slices, dicts, comprehensions. -/
namespace DL
open PySem L2
open Evl (Ex)
section
variable {K : PySem.W.Frag} {M M0 M1 M2 M3 M' : List MC} {E : List (Option Rv)} {ta tb te tx : TE} {x y z r : Rv} {op : R2} {xs rs : List Rv} {b : Bool}
theorem od_rep {ds : List D} {k : Int} (h1 : IsLst M x ds) (hk : -(2 ^ 63) ≤ k ∧ k < 2 ^ 63) (hl : ds.length * k.toNat ≤ 16777216) : OpD K rRep M x (rint k) M (.dat (.lst (List.replicate k.toNat ds).flatten)) := fun B F As σ E H v w S r1 r2 Q q => by
  obtain ⟨a, vs, rfl, ha, pa⟩ := h1.view S r1
  exact ⟨a, k, vs, rfl, R.int_inv r2, ha, hk.1, hk.2, sz (by rw [← pa.1]; exact hl), fun p hp => ev_lstNew S hp (pa.rep _) q⟩
theorem flat_rep {α : Type} (x : α) : ∀ n : Nat, (List.replicate n [x]).flatten = List.replicate n x
  | 0 => rfl
  | n + 1 => by rw [List.replicate_succ, List.flatten_cons, flat_rep x n]; rfl
/-! ### built-ins by values -/
theorem CaD.pure {f : List V → Hp → VK → Prop} (h : ∀ (B : Base) (F H : Hp) (As : List Addr) (σ : St) (E : List (Option Rv)) (vs : List V), Sta K B F As M σ E H → P2 (RV K F As) xs vs → ∀ Q : VK, (∀ u, RV K F As z u → Q u H) → f vs H Q) : CaD K f M xs M z :=
  fun B F As σ E H v S r1 Q q => h B F H As σ E v S r1 Q fun u ru => q u F As H S (Ex.refl F) (List.prefix_refl _) ru
theorem P2.one {F : Hp} {As : List Addr} {vs : List V} (h : P2 (RV K F As) [x] vs) : ∃ v, vs = [v] ∧ RV K F As x v := by
  obtain ⟨v, ws, rfl, hv, h2⟩ := h.inv_cons
  rw [h2.inv_nil]
  exact ⟨v, rfl, hv⟩
theorem P2.two {F : Hp} {As : List Addr} {vs : List V} (h : P2 (RV K F As) [x, y] vs) : ∃ v w, vs = [v, w] ∧ RV K F As x v ∧ RV K F As y w := by
  obtain ⟨v, ws, rfl, hv, h2⟩ := h.inv_cons
  obtain ⟨w, rfl, hw⟩ := h2.one
  exact ⟨v, w, rfl, hv, hw⟩
theorem cd_len {ds : List D} (h : IsLst M x ds) : CaD K (fun xs H Q => ∃ p ys, xs = [V.ref p] ∧ (SqL K H p ys ∨ SqT K H p ys) ∧ Q (V.int (ys.length : Nat)) H) M [x] M (rint ds.length) := CaD.pure fun B F H As σ E vs S r1 Q q => by
  obtain ⟨v, rfl, hv⟩ := r1.one
  obtain ⟨a, ws, rfl, ha, pa⟩ := h.view S hv
  exact ⟨a, ws, rfl, .inl (SqL.of ha), q _ (by rw [← pa.1]; exact .int _)⟩
theorem cd_lenI {ns : List Int} (h : IsLst M x (ns.map D.int)) : CaD K (fun xs H Q => ∃ p ys, xs = [V.ref p] ∧ (SqL K H p ys ∨ SqT K H p ys) ∧ Q (V.int (ys.length : Nat)) H) M [x] M (rint ns.length) := by
  have := cd_len (K := K) h
  rwa [List.length_map] at this
theorem cd_lenT {ds : List D} : CaD K (fun xs H Q => ∃ p ys, xs = [V.ref p] ∧ (SqL K H p ys ∨ SqT K H p ys) ∧ Q (V.int (ys.length : Nat)) H) M [.dat (.tup ds)] M (rint ds.length) := CaD.pure fun B F H As σ E vs S r1 Q q => by
  obtain ⟨v, rfl, hv⟩ := r1.one
  obtain ⟨a, ws, rfl, ha, pa⟩ := R.tup_inv hv
  exact ⟨a, ws, rfl, .inr (SqT.of (S.ex _ _ ha)), q _ (by rw [← pa.1]; exact .int _)⟩
theorem cd_lenScr {ns : List Int} : CaD K (fun xs H Q => ∃ p ys, xs = [V.ref p] ∧ (SqL K H p ys ∨ SqT K H p ys) ∧ Q (V.int (ys.length : Nat)) H) M [.dat (.scr ns)] M (rint ns.length) := CaD.pure fun B F H As σ E vs S r1 Q q => by
  obtain ⟨v, rfl, hv⟩ := r1.one
  obtain ⟨a, rfl, ha⟩ := R.scr_inv hv
  exact ⟨a, _, rfl, .inl (Evl.ex_l S.ex ha), q _ (by rw [List.length_map]; exact .int _)⟩
theorem cd_lenD {kvs : List (Key × D)} (h : IsDct M x kvs) : CaD K (fun xs H Q => ∃ a kvs, xs = [V.ref a] ∧ H a = some (HO.dK kvs) ∧ Q (V.int (kvs.length : Nat)) H) M [x] M (rint kvs.length) := CaD.pure fun B F H As σ E vs S r1 Q q => by
  obtain ⟨v, rfl, hv⟩ := r1.one
  obtain ⟨a, ws, rfl, ha, pa⟩ := h.view S hv
  exact ⟨a, ws, rfl, ha, q _ (by rw [← pa.1]; exact .int _)⟩
theorem cd_abs {i : Int} : CaD K (fun xs H Q => ∃ i, xs = [V.int i] ∧ Q (V.int (if i < 0 then -i else i)) H) M [rint i] M (rint (if i < 0 then -i else i)) := CaD.pure fun B F H As σ E vs S r1 Q q => by
  obtain ⟨v, rfl, hv⟩ := r1.one
  cases R.int_inv hv
  exact ⟨i, rfl, q _ (.int _)⟩
theorem cd_max2 {i j : Int} : CaD K (fun xs H Q => ∃ i j, xs = [V.int i, V.int j] ∧ Q (V.int (if j > i then j else i)) H) M [rint i, rint j] M (rint (if j > i then j else i)) := CaD.pure fun B F H As σ E vs S r1 Q q => by
  obtain ⟨v, w, rfl, hv, hw⟩ := r1.two
  cases R.int_inv hv; cases R.int_inv hw
  exact ⟨i, j, rfl, q _ (.int _)⟩
theorem cd_min2 {i j : Int} : CaD K (fun xs H Q => ∃ i j, xs = [V.int i, V.int j] ∧ Q (V.int (if j < i then j else i)) H) M [rint i, rint j] M (rint (if j < i then j else i)) := CaD.pure fun B F H As σ E vs S r1 Q q => by
  obtain ⟨v, w, rfl, hv, hw⟩ := r1.two
  cases R.int_inv hv; cases R.int_inv hw
  exact ⟨i, j, rfl, q _ (.int _)⟩
theorem cd_int {i : Int} : CaD K (fun xs H Q => (∃ i, xs = [V.int i] ∧ Q (V.int i) H) ∨ ∃ k, xs = [V.bl k] ∧ Q (V.int (if k = true then 1 else 0)) H) M [rint i] M (rint i) := CaD.pure fun B F H As σ E vs S r1 Q q => by
  obtain ⟨v, rfl, hv⟩ := r1.one
  cases R.int_inv hv
  exact .inl ⟨i, rfl, q _ (.int _)⟩
theorem cd_intB {i : Bool} : CaD K (fun xs H Q => (∃ i, xs = [V.int i] ∧ Q (V.int i) H) ∨ ∃ k, xs = [V.bl k] ∧ Q (V.int (if k = true then 1 else 0)) H) M [rbl i] M (rint (if i = true then 1 else 0)) := CaD.pure fun B F H As σ E vs S r1 Q q => by
  obtain ⟨v, rfl, hv⟩ := r1.one
  cases R.bl_inv hv
  exact .inr ⟨i, rfl, q _ (.int _)⟩
theorem cd_sum {ns : List Int} (h : IsLst M x (ns.map D.int)) : CaD K (rSum K) M [x] M (rint ns.sum) := CaD.pure fun B F H As σ E vs S r1 Q q => by
  obtain ⟨v, rfl, hv⟩ := r1.one
  obtain ⟨a, ws, rfl, ha, pa⟩ := h.view S hv
  exact ⟨a, ns, rfl, SqL.of (by rw [← pa.ints]; exact ha), q _ (.int _)⟩
/-- the greatest, the least of a list -/
def mxI : List Int → Int
  | [] => 0
  | n :: ns => ns.foldl (fun m k => if k > m then k else m) n
def mnI : List Int → Int
  | [] => 0
  | n :: ns => ns.foldl (fun m k => if k < m then k else m) n
theorem mx_fold : ∀ (ns : List Int) (n : Int), (ns.foldl (fun m k => if k > m then k else m) n = n ∨ ns.foldl (fun m k => if k > m then k else m) n ∈ ns) ∧ n ≤ ns.foldl (fun m k => if k > m then k else m) n ∧ ∀ k ∈ ns, k ≤ ns.foldl (fun m k => if k > m then k else m) n
  | [], n => ⟨.inl rfl, Int.le_refl _, fun k h => by cases h⟩
  | a :: ns, n => by
    rw [List.foldl_cons]
    by_cases c : a > n
    · rw [if_pos c]
      obtain ⟨h1, h2, h3⟩ := mx_fold ns a
      refine ⟨?_, by omega, fun k hk => ?_⟩
      · rcases h1 with h1 | h1
        · rw [h1]; exact .inr List.mem_cons_self
        · exact .inr (List.mem_cons_of_mem _ h1)
      · rcases List.mem_cons.mp hk with rfl | hk
        · exact h2
        · exact h3 k hk
    · rw [if_neg c]
      obtain ⟨h1, h2, h3⟩ := mx_fold ns n
      refine ⟨?_, h2, fun k hk => ?_⟩
      · rcases h1 with h1 | h1
        · exact .inl h1
        · exact .inr (List.mem_cons_of_mem _ h1)
      · rcases List.mem_cons.mp hk with rfl | hk
        · omega
        · exact h3 k hk
theorem mn_fold : ∀ (ns : List Int) (n : Int), (ns.foldl (fun m k => if k < m then k else m) n = n ∨ ns.foldl (fun m k => if k < m then k else m) n ∈ ns) ∧ ns.foldl (fun m k => if k < m then k else m) n ≤ n ∧ ∀ k ∈ ns, ns.foldl (fun m k => if k < m then k else m) n ≤ k
  | [], n => ⟨.inl rfl, Int.le_refl _, fun k h => by cases h⟩
  | a :: ns, n => by
    rw [List.foldl_cons]
    by_cases c : a < n
    · rw [if_pos c]
      obtain ⟨h1, h2, h3⟩ := mn_fold ns a
      refine ⟨?_, by omega, fun k hk => ?_⟩
      · rcases h1 with h1 | h1
        · rw [h1]; exact .inr List.mem_cons_self
        · exact .inr (List.mem_cons_of_mem _ h1)
      · rcases List.mem_cons.mp hk with rfl | hk
        · exact h2
        · exact h3 k hk
    · rw [if_neg c]
      obtain ⟨h1, h2, h3⟩ := mn_fold ns n
      refine ⟨?_, h2, fun k hk => ?_⟩
      · rcases h1 with h1 | h1
        · exact .inl h1
        · exact .inr (List.mem_cons_of_mem _ h1)
      · rcases List.mem_cons.mp hk with rfl | hk
        · omega
        · exact h3 k hk
theorem mxI_mem {ns : List Int} (h : ns ≠ []) : mxI ns ∈ ns := by
  cases ns with
  | nil => exact absurd rfl h
  | cons n ns =>
    rcases (mx_fold ns n).1 with e | e
    · show ns.foldl _ n ∈ n :: ns
      rw [e]; exact List.mem_cons_self
    · exact List.mem_cons_of_mem _ e
theorem mxI_ge {ns : List Int} {k : Int} (h : k ∈ ns) : k ≤ mxI ns := by
  cases ns with
  | nil => cases h
  | cons n ns =>
    rcases List.mem_cons.mp h with rfl | h
    · exact (mx_fold ns k).2.1
    · exact (mx_fold ns n).2.2 k h
theorem mnI_mem {ns : List Int} (h : ns ≠ []) : mnI ns ∈ ns := by
  cases ns with
  | nil => exact absurd rfl h
  | cons n ns =>
    rcases (mn_fold ns n).1 with e | e
    · show ns.foldl _ n ∈ n :: ns
      rw [e]; exact List.mem_cons_self
    · exact List.mem_cons_of_mem _ e
theorem mnI_le {ns : List Int} {k : Int} (h : k ∈ ns) : mnI ns ≤ k := by
  cases ns with
  | nil => cases h
  | cons n ns =>
    rcases List.mem_cons.mp h with rfl | h
    · exact (mn_fold ns k).2.1
    · exact (mn_fold ns n).2.2 k h
theorem cd_max {ns : List Int} (h : IsLst M x (ns.map D.int)) (h0 : 0 < ns.length) : CaD K (rMax K) M [x] M (rint (mxI ns)) := CaD.pure fun B F H As σ E vs S r1 Q q => by
  obtain ⟨v, rfl, hv⟩ := r1.one
  obtain ⟨a, ws, rfl, ha, pa⟩ := h.view S hv
  refine ⟨a, ns, rfl, SqL.of (by rw [← pa.ints]; exact ha), h0, fun m hm hle => q _ ?_⟩
  have e : m = mxI ns := Int.le_antisymm (mxI_ge hm) (hle _ (mxI_mem (by rintro rfl; exact absurd h0 (by decide))))
  rw [e]; exact .int _
theorem cd_min {ns : List Int} (h : IsLst M x (ns.map D.int)) (h0 : 0 < ns.length) : CaD K (rMin K) M [x] M (rint (mnI ns)) := CaD.pure fun B F H As σ E vs S r1 Q q => by
  obtain ⟨v, rfl, hv⟩ := r1.one
  obtain ⟨a, ws, rfl, ha, pa⟩ := h.view S hv
  refine ⟨a, ns, rfl, SqL.of (by rw [← pa.ints]; exact ha), h0, fun m hm hle => q _ ?_⟩
  have e : m = mnI ns := Int.le_antisymm (hle _ (mnI_mem (by rintro rfl; exact absurd h0 (by decide)))) (mnI_le hm)
  rw [e]; exact .int _
/-- sorted, upward -/
def sortI (ns : List Int) : List Int := ns.mergeSort fun a b => decide (a ≤ b)
theorem sortI_perm (ns : List Int) : (sortI ns).Perm ns := List.mergeSort_perm _ _
theorem sortI_pair (ns : List Int) : (sortI ns).Pairwise (· ≤ ·) := by
  have h := List.pairwise_mergeSort (le := fun (a b : Int) => decide (a ≤ b)) (fun a b c h1 h2 => by simp at *; omega) (fun a b => by simp; omega) ns
  exact h.imp fun h => by simpa using h
theorem sortI_unique {ms ns : List Int} (h : ms.Perm ns) (p : ms.Pairwise (· ≤ ·)) : ms = sortI ns := (h.trans (sortI_perm ns).symm).eq_of_pairwise (fun x y _ _ h1 h2 => Int.le_antisymm h1 h2) p (sortI_pair ns)
theorem sortI_length (ns : List Int) : (sortI ns).length = ns.length := (sortI_perm ns).length_eq
theorem mem_sortI {n : Int} {ns : List Int} : n ∈ sortI ns ↔ n ∈ ns := (sortI_perm ns).mem_iff
theorem cd_sorted {ns : List Int} (h : IsLst M x (ns.map D.int)) : CaD K (rSortedI K) M [x] M (rints (sortI ns)) := fun B F As σ E H vs S r1 Q q => by
  obtain ⟨v, rfl, hv⟩ := r1.one
  obtain ⟨a, ws, rfl, ha, pa⟩ := h.view S hv
  refine ⟨a, ns, rfl, SqL.of (by rw [← pa.ints]; exact ha), fun ns' p hp hs hn => ?_⟩
  rw [sortI_unique hp hs]
  exact ev_lstNew S hn (P2.ofInts _) q
theorem cd_list {ds : List D} (h : IsLst M x ds) : CaD K (fun xs H Q => ∃ p ys, xs = [V.ref p] ∧ (SqL K H p ys ∨ SqT K H p ys) ∧ ∀ (l : Addr), H l = none → Q (V.ref l) (upd H l (HO.lst ys))) M [x] M (.dat (.lst ds)) := fun B F As σ E H vs S r1 Q q => by
  obtain ⟨v, rfl, hv⟩ := r1.one
  obtain ⟨a, ws, rfl, ha, pa⟩ := h.view S hv
  exact ⟨a, ws, rfl, .inl (SqL.of ha), fun p hp => ev_lstNew S hp pa q⟩
theorem cd_listT {ds : List D} : CaD K (fun xs H Q => ∃ p ys, xs = [V.ref p] ∧ (SqL K H p ys ∨ SqT K H p ys) ∧ ∀ (l : Addr), H l = none → Q (V.ref l) (upd H l (HO.lst ys))) M [.dat (.tup ds)] M (.dat (.lst ds)) := fun B F As σ E H vs S r1 Q q => by
  obtain ⟨v, rfl, hv⟩ := r1.one
  obtain ⟨a, ws, rfl, ha, pa⟩ := R.tup_inv hv
  exact ⟨a, ws, rfl, .inr (SqT.of (S.ex _ _ ha)), fun p hp => ev_lstNew S hp pa q⟩
/-- list(xs), to be changed -/
theorem cd_listM {ds : List D} (h : IsLst M x ds) : CaD K (fun xs H Q => ∃ p ys, xs = [V.ref p] ∧ (SqL K H p ys ∨ SqT K H p ys) ∧ ∀ (l : Addr), H l = none → Q (V.ref l) (upd H l (HO.lst ys))) M [x] (M ++ [.lst ds]) (.cel M.length) := fun B F As σ E H vs S r1 Q q => by
  obtain ⟨v, rfl, hv⟩ := r1.one
  obtain ⟨a, ws, rfl, ha, pa⟩ := h.view S hv
  refine ⟨a, ws, rfl, .inl (SqL.of ha), fun p hp => ?_⟩
  have S2 := S.newM (o := .lst ws) (mc := .lst ds) hp ⟨ws, rfl, pa⟩
  exact q _ _ _ _ S2 (Ex.refl F) (List.prefix_append _ _) ⟨p, by rw [List.getElem?_append_right (by rw [S.len]; exact Nat.le_refl _), S.len]; simp, rfl⟩
theorem cd_tuple {ds : List D} (h : IsLst M x ds) : CaD K (fun xs H Q => ∃ p ys, xs = [V.ref p] ∧ ((SqL K H p ys ∧ ∀ (l : Addr), H l = none → Q (V.ref l) (upd H l (HO.tup ys))) ∨ SqT K H p ys ∧ Q (V.ref p) H)) M [x] M (.dat (.tup ds)) := fun B F As σ E H vs S r1 Q q => by
  obtain ⟨v, rfl, hv⟩ := r1.one
  obtain ⟨a, ws, rfl, ha, pa⟩ := h.view S hv
  refine ⟨a, ws, rfl, .inl ⟨SqL.of ha, fun p hp => ?_⟩⟩
  obtain ⟨S2, e2⟩ := S.newF (o := .tup ws) hp
  exact q _ _ As _ S2 e2 (List.prefix_refl _) (R.tup' upd_same (pa.imp fun _ _ z => z.mono e2))
theorem cd_all {bs : List Bool} (h : IsLst M x (bs.map D.bl)) : CaD K (rAll K) M [x] M (rbl (bs.all id)) := CaD.pure fun B F H As σ E vs S r1 Q q => by
  obtain ⟨v, rfl, hv⟩ := r1.one
  obtain ⟨a, ws, rfl, ha, pa⟩ := h.view S hv
  exact ⟨a, bs, rfl, SqL.of (by rw [← pa.bls]; exact ha), q _ (.bl _)⟩
theorem cd_any {bs : List Bool} (h : IsLst M x (bs.map D.bl)) : CaD K (rAny K) M [x] M (rbl (bs.any id)) := CaD.pure fun B F H As σ E vs S r1 Q q => by
  obtain ⟨v, rfl, hv⟩ := r1.one
  obtain ⟨a, ws, rfl, ha, pa⟩ := h.view S hv
  exact ⟨a, bs, rfl, SqL.of (by rw [← pa.bls]; exact ha), q _ (.bl _)⟩
/-! ### isinstance -/
def D.ty : D → Option String
  | .non => some "NoneType" | .bl _ => some "bool" | .int _ => some "int" | .str _ => some "str" | .lst _ => some "list" | .tup _ => some "tuple" | .dct _ => some "dict" | _ => none
theorem R.ty {F H : Hp} {d : D} {v : V} {t : String} (h : R K F d v) (e : Ex F H) (ht : d.ty = some t) : TyX K H v (.type t) := by
  cases h with
  | non => cases ht; exact .base .non
  | bl b => cases ht; exact .base (.bl b)
  | int i => cases ht; exact .base (.int i)
  | str s => cases ht; exact .base (.str s)
  | lst h _ _ => cases ht; exact .base (.lst (e _ _ h))
  | tup h _ _ => cases ht; exact .base (.tup (e _ _ h))
  | dct h _ _ => cases ht; exact .base (.dK (e _ _ h))
  | ins h _ _ => cases ht
  | scr h => cases ht
/-- isinstance(e, T), T a built-in class by its name -/
theorem ev_isi {d : D} {t u : String} {b : Bool} (ha : EvD K ta M E M1 (.dat d)) (ht : d.ty = some t) (hb : kitB t u = some b) : EvD K (tCB (rIsi K) (tCons ta (tCons (tC (.ty u)) tNil))) M E M1 (rbl b) := fun B F As σ H S Q q =>
  ha B F As σ H S _ fun v F1 As1 H1 S1 e1 p1 r1 => ⟨v, .ty u, .type t, .type u, b, rfl, .ty u, R.ty r1 S1.ex ht, kit_ty hb, q _ F1 As1 H1 S1 e1 p1 (.bl b)⟩
/-! ### slices -/
theorem eo_none : EvO K tNoPart M E M none := fun B F As σ H S Q q => q F As H S (Ex.refl F) (List.prefix_refl _)
theorem eo_some {i : Int} (h : EvD K te M E M1 (rint i)) : EvO K (tPart te) M E M1 (some i) := fun B F As σ H S Q q => h B F As σ H S _ fun v F1 As1 H1 S1 e1 p1 r1 => ⟨i, R.int_inv r1, q F1 As1 H1 S1 e1 p1⟩
/-- xs[lo:hi] as data -/
def cutD {α : Type} (xs : List α) (lo hi : Option Int) : List α := (xs.drop (HT.sIx xs.length 0 lo)).take (HT.sIx xs.length xs.length hi - HT.sIx xs.length 0 lo)
theorem P2.cut {F : Hp} {ds : List D} {vs : List V} (h : P2 (R K F) ds vs) (lo hi : Option Int) : P2 (R K F) (cutD ds lo hi) (cutV vs lo hi) := by
  unfold cutD cutV
  rw [h.1]
  exact (h.drop _).take _
theorem cutD_map {α β : Type} (f : α → β) (xs : List α) (lo hi : Option Int) : cutD (xs.map f) lo hi = (cutD xs lo hi).map f := by
  unfold cutD
  rw [List.length_map, List.map_take, List.map_drop]
theorem ev_slice {tl th : TO} {ds : List D} {lo hi : Option Int} (ha : EvD K ta M E M1 x) (hl : EvO K tl M1 E M2 lo) (hh : EvO K th M2 E M3 hi) (h : IsLst M3 x ds) : EvD K (tSl (rSlL K) ta tl th) M E M3 (.dat (.lst (cutD ds lo hi))) := fun B F As σ H S Q q =>
  ha B F As σ H S _ fun v F1 As1 H1 S1 e1 p1 r1 => hl B F1 As1 σ H1 S1 _ fun F2 As2 H2 S2 e2 p2 => hh B F2 As2 σ H2 S2 _ fun F3 As3 H3 S3 e3 p3 => by
    obtain ⟨a, vs, rfl, ha, pa⟩ := h.view S3 (r1.m (e2.trans e3) (p2.trans p3))
    exact ⟨a, vs, rfl, SqL.of ha, fun p hp => ev_lstNew S3 hp (pa.cut lo hi) fun u F4 As4 H4 S4 e4 p4 r4 => q u F4 As4 H4 S4 ((e1.trans (e2.trans e3)).trans e4) ((p1.trans (p2.trans p3)).trans p4) r4⟩
theorem ev_sliceI {tl th : TO} {ns : List Int} {lo hi : Option Int} (ha : EvD K ta M E M1 x) (hl : EvO K tl M1 E M2 lo) (hh : EvO K th M2 E M3 hi) (h : IsLst M3 x (ns.map D.int)) : EvD K (tSl (rSlL K) ta tl th) M E M3 (rints (cutD ns lo hi)) := by
  have := ev_slice ha hl hh h
  rwa [cutD_map] at this
theorem ev_sliceScr {tl th : TO} {ns : List Int} {lo hi : Option Int} (ha : EvD K ta M E M1 (.dat (.scr ns))) (hl : EvO K tl M1 E M2 lo) (hh : EvO K th M2 E M3 hi) : EvD K (tSl (rSlL K) ta tl th) M E M3 (rints (cutD ns lo hi)) := fun B F As σ H S Q q =>
  ha B F As σ H S _ fun v F1 As1 H1 S1 e1 p1 r1 => hl B F1 As1 σ H1 S1 _ fun F2 As2 H2 S2 e2 p2 => hh B F2 As2 σ H2 S2 _ fun F3 As3 H3 S3 e3 p3 => by
    obtain ⟨a, rfl, ha⟩ := R.scr_inv r1
    refine ⟨a, _, rfl, Evl.ex_l S3.ex (Evl.ex_l (e2.trans e3) ha), fun p hp => ?_⟩
    have e : cutV (ns.map V.int) lo hi = (cutD ns lo hi).map V.int := by
      unfold cutV cutD
      rw [List.length_map, List.map_take, List.map_drop]
    rw [e]
    exact ev_lstNew S3 hp (P2.ofInts _) fun u F4 As4 H4 S4 e4 p4 r4 => q u F4 As4 H4 S4 ((e1.trans (e2.trans e3)).trans e4) ((p1.trans (p2.trans p3)).trans p4) r4
theorem ev_revL {ds : List D} (ha : EvD K ta M E M1 x) (h : IsLst M1 x ds) : EvD K (tRevL K ta) M E M1 (.dat (.lst ds.reverse)) := fun B F As σ H S Q q =>
  ha B F As σ H S _ fun v F1 As1 H1 S1 e1 p1 r1 => by
    obtain ⟨a, vs, rfl, ha, pa⟩ := h.view S1 r1
    exact ⟨a, vs, rfl, SqL.of ha, fun p hp => ev_lstNew S1 hp pa.reverse fun u F4 As4 H4 S4 e4 p4 r4 => q u F4 As4 H4 S4 (e1.trans e4) (p1.trans p4) r4⟩
/-! ### dicts -/
def valG {κ α : Type} [DecidableEq κ] (kvs : List (κ × α)) (k : κ) : Option α := (kvs.find? fun kv => decide (kv.1 = k)).map (·.2)
def putG {κ α : Type} [DecidableEq κ] (kvs : List (κ × α)) (k : κ) (v : α) : List (κ × α) :=
  if (kvs.any fun kv => decide (kv.1 = k)) = true then kvs.map (fun kv => if kv.1 = k then (kv.1, v) else kv) else kvs ++ [(k, v)]
theorem PK.val {α : Type} [DecidableEq α] {Rr : D → V → Prop} : ∀ {kvs : List (α × D)} {ws : List (α × V)} (k : α), PK Rr kvs ws → (valG kvs k = none ∧ valV ws k = none) ∨ ∃ d v, valG kvs k = some d ∧ valV ws k = some v ∧ Rr d v
  | [], ws, k, h => by rw [P2.inv_nil h]; exact .inl ⟨rfl, rfl⟩
  | p :: kvs, ws, k, h => by
    obtain ⟨q, zs, rfl, ⟨h1, h2⟩, h3⟩ := P2.inv_cons h
    by_cases e : p.1 = k
    · refine .inr ⟨p.2, q.2, ?_, ?_, h2⟩
      · unfold valG; rw [List.find?_cons_of_pos (by simpa using e)]; rfl
      · unfold valV; rw [List.find?_cons_of_pos (by simpa using h1.symm.trans e)]; rfl
    · have e2 : ¬ q.1 = k := fun z => e (h1.trans z)
      have g1 : valG (p :: kvs) k = valG kvs k := by unfold valG; rw [List.find?_cons_of_neg (by simpa using e)]
      have g2 : valV (q :: zs) k = valV zs k := valV_neg e2
      rw [g1, g2]
      exact PK.val k h3
theorem PK.put {α : Type} [DecidableEq α] {Rr : D → V → Prop} {kvs : List (α × D)} {ws : List (α × V)} {k : α} {d : D} {v : V} (h : PK Rr kvs ws) (r : Rr d v) : PK Rr (putG kvs k d) (putK ws k v) := by
  have e : (kvs.any fun kv => decide (kv.1 = k)) = ws.any fun kv => decide (kv.1 = k) := by
    have := h.keys
    have a1 : (kvs.any fun kv => decide (kv.1 = k)) = (kvs.map (·.1)).any fun y => decide (y = k) := by rw [List.any_map]; rfl
    have a2 : (ws.any fun kv => decide (kv.1 = k)) = (ws.map (·.1)).any fun y => decide (y = k) := by rw [List.any_map]; rfl
    rw [a1, a2, this]
  unfold putG putK
  rw [e]
  split
  · refine ⟨by rw [List.length_map, List.length_map]; exact h.1, fun i p q e1 e2 => ?_⟩
    rw [List.getElem?_map] at e1 e2
    cases c1 : kvs[i]? with
    | none => rw [c1] at e1; cases e1
    | some p0 =>
      cases c2 : ws[i]? with
      | none => rw [c2] at e2; cases e2
      | some q0 =>
        rw [c1] at e1; rw [c2] at e2
        obtain ⟨h1, h2⟩ := h.2 i p0 q0 c1 c2
        cases e1; cases e2
        show (if p0.1 = k then (p0.1, d) else p0).1 = (if q0.1 = k then (q0.1, v) else q0).1 ∧ Rr (if p0.1 = k then (p0.1, d) else p0).2 (if q0.1 = k then (q0.1, v) else q0).2
        rw [h1]
        by_cases c : q0.1 = k
        · rw [if_pos c, if_pos c]; exact ⟨rfl, r⟩
        · rw [if_neg c, if_neg c]; exact ⟨h1, h2⟩
  · exact P2.append h (P2.single ⟨rfl, r⟩)
def D.key : D → Option Key
  | .int i => some (.inl i)
  | .str s => some (.inr s)
  | _ => none
theorem R.key {F : Hp} {d : D} {v : V} {k : Key} (h : R K F d v) (e : d.key = some k) : v = kV k := by
  cases h with
  | int i => cases e; rfl
  | str s => cases e; rfl
  | _ => cases e
theorem ev_dget {d k : D} {kk : Key} {kvs : List (Key × D)} (ha : EvD K ta M E M1 x) (hb : EvD K tb M1 E M2 (.dat k)) (hk : k.key = some kk) (hd : IsDct M2 x kvs) (hv : valG kvs kk = some d) : EvD K (tDGet ta tb) M E M2 (.dat d) := fun B F As σ H S Q q =>
  ha B F As σ H S _ fun v F1 As1 H1 S1 e1 p1 r1 => hb B F1 As1 σ H1 S1 _ fun w F2 As2 H2 S2 e2 p2 r2 => by
    obtain ⟨a, ws, rfl, hA, pa⟩ := hd.view S2 (r1.m e2 p2)
    have ew := R.key r2 hk
    rcases pa.val kk with ⟨h1, _⟩ | ⟨d', v', h1, h2, h3⟩
    · rw [h1] at hv; cases hv
    · rw [h1] at hv; cases hv
      exact ⟨a, v', rfl, ew ▸ (h2 ▸ DGet.k hA), q v' F2 As2 H2 S2 (e1.trans e2) (p1.trans p2) h3⟩
theorem ev_din {k : D} {kk : Key} {kvs : List (Key × D)} (hb : EvD K tb M E M1 (.dat k)) (ha : EvD K ta M1 E M2 x) (hk : k.key = some kk) (hd : IsDct M2 x kvs) : EvD K (tDIn tb ta) M E M2 (rbl (valG kvs kk).isSome) := fun B F As σ H S Q q =>
  hb B F As σ H S _ fun w F1 As1 H1 S1 e1 p1 r1 => ha B F1 As1 σ H1 S1 _ fun v F2 As2 H2 S2 e2 p2 r2 => by
    obtain ⟨a, ws, rfl, hA, pa⟩ := hd.view S2 r2
    have ew := R.key r1 hk
    refine ⟨a, valV ws kk, rfl, ew ▸ DGet.k hA, q _ F2 As2 H2 S2 (e1.trans e2) (p1.trans p2) ?_⟩
    have : (valG kvs kk).isSome = (valV ws kk).isSome := by
      rcases pa.val kk with ⟨h1, h2⟩ | ⟨d', v', h1, h2, h3⟩ <;> rw [h1, h2] <;> rfl
    rw [this]; exact .bl _
theorem ev_dnotin {k : D} {kk : Key} {kvs : List (Key × D)} (hb : EvD K tb M E M1 (.dat k)) (ha : EvD K ta M1 E M2 x) (hk : k.key = some kk) (hd : IsDct M2 x kvs) : EvD K (tDNotIn tb ta) M E M2 (rbl (!(valG kvs kk).isSome)) := fun B F As σ H S Q q =>
  hb B F As σ H S _ fun w F1 As1 H1 S1 e1 p1 r1 => ha B F1 As1 σ H1 S1 _ fun v F2 As2 H2 S2 e2 p2 r2 => by
    obtain ⟨a, ws, rfl, hA, pa⟩ := hd.view S2 r2
    have ew := R.key r1 hk
    refine ⟨a, valV ws kk, rfl, ew ▸ DGet.k hA, q _ F2 As2 H2 S2 (e1.trans e2) (p1.trans p2) ?_⟩
    have : (valG kvs kk).isSome = (valV ws kk).isSome := by
      rcases pa.val kk with ⟨h1, h2⟩ | ⟨d', v', h1, h2, h3⟩ <;> rw [h1, h2] <;> rfl
    rw [this]; exact .bl _
/-! ### a number in a list of numbers -/
theorem inV_ints (n : Int) (ns : List Int) : inV (.int n) (ns.map V.int) = decide (n ∈ ns) := by
  unfold inV
  induction ns with
  | nil => rfl
  | cons m ns ih =>
    rw [List.map_cons, List.any_cons, ih]
    show ((m == n) || decide (n ∈ ns)) = decide (n ∈ m :: ns)
    by_cases e : m = n
    · rw [decide_eq_true (show n ∈ m :: ns from e ▸ List.mem_cons_self), beq_iff_eq.mpr e, Bool.true_or]
    · rw [beq_eq_false_iff_ne.mpr e, Bool.false_or]
      by_cases c : n ∈ ns
      · rw [decide_eq_true c, decide_eq_true (List.mem_cons_of_mem _ c)]
      · rw [decide_eq_false c, decide_eq_false (fun z => by
          rcases List.mem_cons.mp z with z | z
          · exact e z.symm
          · exact c z)]
theorem all_flat (ns : List Int) : (ns.map V.int).all flatV = true := by
  rw [List.all_eq_true]; intro v hv
  obtain ⟨n, _, rfl⟩ := List.mem_map.mp hv
  rfl
theorem od_inI {n : Int} {ns : List Int} (h : IsLst M y (ns.map D.int)) : OpD K (rIn K false) M (rint n) y M (rbl (decide (n ∈ ns))) := OpD.pure fun B F H As σ E v w S r1 r2 Q q => by
  obtain ⟨a, vs, rfl, ha, pa⟩ := h.view S r2
  cases R.int_inv r1
  rw [pa.ints] at ha
  refine ⟨a, _, rfl, .inl (SqL.of ha), rfl, all_flat ns, q _ ?_⟩
  show R K F _ (V.bl (if false = true then _ else inV (.int n) (ns.map V.int)))
  rw [if_neg Bool.false_ne_true, inV_ints]; exact .bl _
theorem od_notinI {n : Int} {ns : List Int} (h : IsLst M y (ns.map D.int)) : OpD K (rIn K true) M (rint n) y M (rbl (!decide (n ∈ ns))) := OpD.pure fun B F H As σ E v w S r1 r2 Q q => by
  obtain ⟨a, vs, rfl, ha, pa⟩ := h.view S r2
  cases R.int_inv r1
  rw [pa.ints] at ha
  refine ⟨a, _, rfl, .inl (SqL.of ha), rfl, all_flat ns, q _ ?_⟩
  show R K F _ (V.bl (if true = true then !inV (.int n) (ns.map V.int) else _))
  rw [if_pos rfl, inV_ints]; exact .bl _
end
end DL
set_option Elab.async false
set_option linter.all false
set_option maxRecDepth 100000
set_option maxHeartbeats 2000000
/-! DL, fourth part: comprehensions; the promise of a def by data (FSp), its way in, its way out, its call; statements and loops. -/
namespace DL
open PySem L2
open Evl (Ex)
section
variable {K : PySem.W.Frag} {B : Base} {F F' F1 H H' H1 : Hp} {As As' As1 : List Addr} {M M0 M1 M2 M3 M' : List MC} {σ σ' : St} {E E' : List (Option Rv)} {ta tb te tx : TE} {x y z r : Rv} {op : R2} {xs rs : List Rv} {b : Bool}
/-- a tracked thing beside the state is changed -/
theorem Sta.other (S : Sta K B F As M σ E H) {p : Addr} {o : HO} (hF : F p = none) (hA : p ∉ As) (hP : B.P p) (hH : ∃ u, H p = some u) : Sta K B F As M σ E (upd H p o) := by
  refine ⟨Ex.mut S.ex hF, S.len, S.nd, fun k a mc h1 h2 h3 => ?_, S.slots, S.bF, fun a u h hP' => ?_, S.bN, S.bA, fun a u h => ?_, fun a h => ?_, S.pA⟩
  · obtain ⟨h4, o', h5, h6⟩ := S.cell k a mc h1 h2 h3
    have e : a ≠ p := fun z => hA (z ▸ List.mem_of_getElem? h1)
    exact ⟨h4, o', by rw [upd_ne e]; exact h5, h6⟩
  · rw [upd_ne (fun z : a = p => hP' (by rw [z]; exact hP))]; exact S.bH a u h hP'
  · by_cases e : a = p
    · subst e; exact ⟨o, upd_same⟩
    · obtain ⟨u', q⟩ := S.bK a u h
      exact ⟨u', by rw [upd_ne e]; exact q⟩
  · by_cases e : a = p
    · subst e; exact ⟨o, upd_same⟩
    · obtain ⟨u', q⟩ := S.kn a h
      exact ⟨u', by rw [upd_ne e]; exact q⟩
/-- the base of a block that fills a list at p -/
def Base.at (F H : Hp) (As : List Addr) (p : Addr) (o : HO) : Base := ⟨F, upd H p o, fun a => a ∈ As ∨ a = p, As⟩
theorem Sta.toAt (S : Sta K B F As M σ E H) {p : Addr} {o : HO} (hp : H p = none) : Sta K (Base.at F H As p o) F As M σ E (upd H p o) := by
  have hA := S.off hp
  have hF := S.fresh hp
  refine ⟨Ex.mut S.ex hF, S.len, S.nd, fun k a mc h1 h2 h3 => ?_, S.slots, Ex.refl F, fun a u h _ => h, fun a u h h0 => h0, fun a h => .inl (.inl h), fun a u h => ⟨u, h⟩, fun a h => ?_, List.prefix_refl _⟩
  · obtain ⟨h4, o', h5, h6⟩ := S.cell k a mc h1 h2 h3
    exact ⟨h4, o', by rw [upd_ne (ne_of_none h5 hp)]; exact h5, h6⟩
  · obtain ⟨u', q⟩ := S.kn a h
    exact ⟨u', by rw [upd_ne (ne_of_none q hp)]; exact q⟩
/-- the filled list is frozen, the block's base left -/
theorem Sta.adopt (S : Sta K B F1 As1 M0 σ E H1) {p : Addr} {o o' : HO} (hp : H1 p = none) (S' : Sta K (Base.at F1 H1 As1 p o) F' As' M' σ' E' H') (hF : F' p = none) (hA : p ∉ As') (hH : H' p = some o') :
    Sta K B (upd F' p o') As' M' σ' E' H' ∧ Ex F' (upd F' p o') := by
  have ex : Ex F' (upd F' p o') := Ex.new hF
  have b0 := S.base_off hp
  refine ⟨⟨fun a u h => ?_, S'.len, S'.nd, fun k a mc h1 h2 h3 => ?_, S'.slots.mono ex (List.prefix_refl _), (S.bF.trans S'.bF).trans ex, fun a u h hP => ?_, fun a u h h0 => ?_, fun a h => ?_, fun a u h => ?_, S'.kn, S.pA.trans S'.pA⟩, ex⟩
  · by_cases e : a = p
    · subst e; rw [upd_same] at h; rw [← h]; exact hH
    · rw [upd_ne e] at h; exact S'.ex a u h
  · obtain ⟨h4, o2, h5, h6⟩ := S'.cell k a mc h1 h2 h3
    have e : a ≠ p := fun z => hA (z ▸ List.mem_of_getElem? h1)
    exact ⟨by rw [upd_ne e]; exact h4, o2, h5, h6.mono ex⟩
  · have e : a ≠ p := ne_of_none h b0
    refine S'.bH a u (by show upd H1 p o a = _; rw [upd_ne e]; exact S.bH a u h hP) fun z => ?_
    rcases z with z | z
    · rcases S.bA a z with q | q
      · exact hP q
      · rw [q] at h; cases h
    · exact e z
  · have e : a ≠ p := ne_of_none h b0
    obtain ⟨u', q⟩ := S.bK a u h
    rw [upd_ne e]
    exact S'.bN a u' (by show upd H1 p o a = _; rw [upd_ne e]; exact q) (S.bN a u h h0)
  · rcases S'.bA a h with (q | q) | q
    · exact S.bA a q
    · exact absurd (q ▸ h) hA
    · refine .inr ?_
      have : H1 a = none := by
        have q : upd H1 p o a = none := q
        by_cases e : a = p
        · subst e; rw [upd_same] at q; cases q
        · rwa [upd_ne e] at q
      exact S.base_off this
  · have e : a ≠ p := ne_of_none h b0
    obtain ⟨u', q⟩ := S.bK a u h
    exact S'.bK a u' (by show upd H1 p o a = _; rw [upd_ne e]; exact q)
/-! ### comprehensions -/
def givD (n : Nat) (f : Nat → Bool) (v : Nat → D) : List D := ((List.range n).filter f).map v
theorem givD_yes {n : Nat} {f : Nat → Bool} {v : Nat → D} (h : f n = true) : givD (n + 1) f v = givD n f v ++ [v n] := by
  unfold givD
  rw [List.range_succ, List.filter_append, List.map_append, List.filter_cons, if_pos h] <;> rfl
theorem givD_no {n : Nat} {f : Nat → Bool} {v : Nat → D} (h : f n = false) : givD (n + 1) f v = givD n f v := by
  unfold givD
  rw [List.range_succ, List.filter_append, List.map_append, List.filter_cons, if_neg (by rw [h]; decide)]
  show _ ++ [] = _
  rw [List.append_nil]
theorem givD_len (n : Nat) (f : Nat → Bool) (v : Nat → D) : (givD n f v).length ≤ n := by
  unfold givD
  rw [List.length_map]
  have h := List.length_filter_le f (List.range n)
  rw [List.length_range] at h
  exact h
/-- the word of a comprehension: its i-th turn -/
def LcW (K : PySem.W.Frag) (F1 H1 : Hp) (As1 : List Addr) (Ms : Nat → List MC) (f : Nat → Bool) (v : Nat → D) (σ : St) (E : List (Option Rv)) (p : Addr) (i : Nat) (H' : Hp) : Prop :=
  ∃ F' As' acc, Sta K (Base.at F1 H1 As1 p (.lst [])) F' As' (Ms i) σ E H' ∧ F' p = none ∧ p ∉ As' ∧ As1 <+: As' ∧ H' p = some (.lst acc) ∧ P2 (R K F') (givD i f v) acc
theorem lcw_turn {tt : TT} {Ms : Nat → List MC} {f : Nat → Bool} {v : Nat → D} {p : Addr} {i : Nat} {Mt : List MC} {σ2 : St} {E2 : List (Option Rv)} (h : LcW K F1 H1 As1 Ms f v σ E p i H') (hi : i < 16777000)
    (hES : ∀ F', Ex F1 F' → ∀ As', As1 <+: As' → ES K F' As' σ E → ES K F' As' σ2 E2)
    (ht : EvT K tt (Ms i) E2 Mt (f i)) (he : f i = true → EvD K te Mt E2 (Ms (i + 1)) (.dat (v i))) (hn : f i = false → Ms (i + 1) = Mt) :
    tt σ2 H' fun b H3 => if b = true then te σ2 H3 fun y H4 => ∃ acc, H4 p = some (.lst acc) ∧ acc.length < sizeLine ∧ LcW K F1 H1 As1 Ms f v σ E p (i + 1) (upd H4 p (.lst (acc ++ [y]))) else LcW K F1 H1 As1 Ms f v σ E p (i + 1) H3 := by
  obtain ⟨F', As', acc, S', hF, hA, hpre, hH, hr⟩ := h
  have S2 : Sta K (Sta.self F' H' As') F' As' (Ms i) σ2 E2 H' := ⟨S'.ex, S'.len, S'.nd, S'.cell, hES F' S'.bF As' hpre S'.slots, Ex.refl F', fun a o h _ => h, fun a o _ h => h, fun a h => .inl h, fun a o h => ⟨o, h⟩, S'.kn, List.prefix_refl _⟩
  refine ht _ _ _ _ _ S2 _ fun F3 As3 H3 S3 e3 p3 => ?_
  have hH3 : H3 p = some (.lst acc) := S3.bH p _ hH hA
  have hF3 : F3 p = none := S3.bN p _ hH hF
  have hA3 : p ∉ As3 := fun z => by
    rcases S3.bA p z with q | q
    · exact hA q
    · have q : H' p = none := q
      rw [hH] at q; cases q
  -- back to the block's base, with the slots of the outer state
  have back : ∀ {F4 As4 M4 H4}, Sta K (Sta.self F' H' As') F4 As4 M4 σ2 E2 H4 → As' <+: As4 → Sta K (Base.at F1 H1 As1 p (.lst [])) F4 As4 M4 σ E H4 := fun {F4 As4 M4 H4} S4 p4 =>
    S'.rebase ⟨S4.ex, S4.len, S4.nd, S4.cell, S'.slots.mono S4.bF p4, S4.bF, S4.bH, S4.bN, S4.bA, S4.bK, S4.kn, S4.pA⟩
  cases hf : f i with
  | false =>
    show LcW K F1 H1 As1 Ms f v σ E p (i + 1) H3
    refine ⟨F3, As3, acc, ?_, hF3, hA3, hpre.trans p3, hH3, ?_⟩
    · rw [hn hf]; exact back S3 p3
    · rw [givD_no hf]; exact hr.imp fun _ _ z => z.mono e3
  | true =>
    show te σ2 H3 fun y H4 => ∃ acc, H4 p = some (.lst acc) ∧ acc.length < sizeLine ∧ LcW K F1 H1 As1 Ms f v σ E p (i + 1) (upd H4 p (.lst (acc ++ [y])))
    refine he hf _ _ _ _ _ S3 _ fun u F4 As4 H4 S4 e4 p4 r4 => ?_
    have hH4 : H4 p = some (.lst acc) := S4.bH p _ hH hA
    have hF4 : F4 p = none := S4.bN p _ hH hF
    have hA4 : p ∉ As4 := fun z => by
      rcases S4.bA p z with q | q
      · exact hA q
      · have q : H' p = none := q
        rw [hH] at q; cases q
    refine ⟨acc, hH4, szlt ?_, F4, As4, acc ++ [u], ?_, hF4, hA4, hpre.trans (p3.trans p4), upd_same, ?_⟩
    · have := givD_len i f v
      rw [hr.1] at this; omega
    · exact (back S4 (p3.trans p4)).other hF4 hA4 (.inr rfl) ⟨_, hH4⟩
    · rw [givD_yes hf]
      exact (hr.imp fun _ _ z => z.mono (e3.trans e4)).append (P2.single r4)
theorem wipe_one (σ : St) (j : Nat) (x : Option V) : wipe ((wipe σ [j]).set j x) [j] = wipe σ [j] := by
  show ((σ.set j none).set j x).set j none = σ.set j none
  rw [List.set_set, List.set_set]
theorem ES.setW {F : Hp} {As : List Addr} {j : Nat} {r : Rv} {v : V} (h : ES K F As σ E) (q : RV K F As r v) : ES K F As ((wipe σ [j]).set j (some v)) (E.set j (some r)) := by
  show ES K F As ((σ.set j none).set j (some v)) _
  rw [List.set_set]
  exact h.set q
/-- the end of a comprehension -/
theorem lcw_done (S1 : Sta K B F1 As1 M0 σ E H1) {p : Addr} (hp : H1 p = none) {Ms : Nat → List MC} {f : Nat → Bool} {v : Nat → D} {n : Nat} (h : LcW K F1 H1 As1 Ms f v σ E p n H') {Q : VK}
    (q : ∀ u F' As' H', Sta K B F' As' (Ms n) σ E H' → Ex F1 F' → As1 <+: As' → RV K F' As' (.dat (.lst (givD n f v))) u → Q u H') : Q (.ref p) H' := by
  obtain ⟨F', As', acc, S', hF, hA, hpre, hH, hr⟩ := h
  obtain ⟨S2, e2⟩ := S1.adopt hp S' hF hA hH
  exact q _ _ _ _ S2 (S'.bF.trans e2) hpre (R.lst' upd_same (hr.imp fun _ _ z => z.mono e2))
/-- .. the list to be changed later -/
theorem lcw_doneM (S1 : Sta K B F1 As1 M0 σ E H1) {p : Addr} (hp : H1 p = none) {Ms : Nat → List MC} {f : Nat → Bool} {v : Nat → D} {n : Nat} (h : LcW K F1 H1 As1 Ms f v σ E p n H') {Q : VK}
    (q : ∀ u F' As' H', Sta K B F' As' (Ms n ++ [.lst (givD n f v)]) σ E H' → Ex F1 F' → As1 <+: As' → RV K F' As' (.cel (Ms n).length) u → Q u H') : Q (.ref p) H' := by
  obtain ⟨F', As', acc, S', hF, hA, hpre, hH, hr⟩ := h
  have b0 := S1.base_off hp
  have S2 : Sta K B F' (As' ++ [p]) (Ms n ++ [.lst (givD n f v)]) σ E H' := by
    refine ⟨S'.ex, by rw [List.length_append, List.length_append, S'.len]; rfl, ?_, fun k a mc h1 h2 h3 => ?_, S'.slots.mono (Ex.refl F') (List.prefix_append _ _), S1.bF.trans S'.bF, fun a u h hP => ?_, fun a u h h0 => ?_, fun a h => ?_, fun a u h => ?_, fun a h => ?_, (S1.pA.trans S'.pA).trans (List.prefix_append _ _)⟩
    · rw [List.nodup_append]
      refine ⟨S'.nd, by simp, fun a ha b hb e => ?_⟩
      simp at hb
      subst e; subst hb; exact hA ha
    · rcases getElem?_concat h1 with q1 | ⟨q1, q2⟩
      · rcases getElem?_concat h2 with q3 | ⟨q3, q4⟩
        · exact S'.cell k a mc q1 q3 h3
        · have := (List.getElem?_eq_some_iff.mp q1).1
          rw [S'.len] at this; omega
      · rcases getElem?_concat h2 with q3 | ⟨q3, q4⟩
        · have := (List.getElem?_eq_some_iff.mp q3).1
          rw [← S'.len] at this; omega
        · subst q2; subst q4
          exact ⟨hF, _, hH, acc, rfl, hr⟩
    · have e : a ≠ p := ne_of_none h b0
      refine S'.bH a u (by show upd H1 p _ a = _; rw [upd_ne e]; exact S1.bH a u h hP) fun z => ?_
      rcases z with z | z
      · rcases S1.bA a z with q | q
        · exact hP q
        · rw [q] at h; cases h
      · exact e z
    · have e : a ≠ p := ne_of_none h b0
      obtain ⟨u', q⟩ := S1.bK a u h
      exact S'.bN a u' (by show upd H1 p _ a = _; rw [upd_ne e]; exact q) (S1.bN a u h h0)
    · rcases List.mem_append.mp h with h | h
      · rcases S'.bA a h with (q | q) | q
        · exact S1.bA a q
        · exact absurd (q ▸ h) hA
        · refine .inr ?_
          have : H1 a = none := by
            have q : upd H1 p _ a = none := q
            by_cases e : a = p
            · subst e; rw [upd_same] at q; cases q
            · rwa [upd_ne e] at q
          exact S1.base_off this
      · simp at h; subst h; exact .inr b0
    · have e : a ≠ p := ne_of_none h b0
      obtain ⟨u', q⟩ := S1.bK a u h
      exact S'.bK a u' (by show upd H1 p _ a = _; rw [upd_ne e]; exact q)
    · rcases List.mem_append.mp h with h | h
      · exact S'.kn a h
      · simp at h; subst h; exact ⟨_, hH⟩
  exact q _ _ _ _ S2 S'.bF (hpre.trans (List.prefix_append _ _)) ⟨p, by rw [List.getElem?_append_right (by rw [S'.len]; exact Nat.le_refl _), S'.len]; simp, rfl⟩
theorem lcw_start (S1 : Sta K B F1 As1 M1 σ E H1) {p : Addr} (hp : H1 p = none) {Ms : Nat → List MC} {f : Nat → Bool} {v : Nat → D} (h0 : Ms 0 = M1) : LcW K F1 H1 As1 Ms f v σ E p 0 (upd H1 p (.lst [])) := by
  refine ⟨F1, As1, [], ?_, S1.fresh hp, S1.off hp, List.prefix_refl _, upd_same, P2.nil⟩
  rw [h0]
  exact S1.toAt hp
/-- what the turn of a comprehension gives -/
def LcT (K : PySem.W.Frag) (tt : TT) (te : TE) (Ms : Nat → List MC) (f : Nat → Bool) (v : Nat → D) (E2 : List (Option Rv)) (i : Nat) : Prop :=
  ∃ Mt, EvT K tt (Ms i) E2 Mt (f i) ∧ (f i = true → EvD K te Mt E2 (Ms (i + 1)) (.dat (v i))) ∧ (f i = false → Ms (i + 1) = Mt)
/-- [e for x in range(n) if t] -/
theorem ev_lcR1 {t : TA} {tt : TT} {j : Nat} {n : Int} (Ms : Nat → List MC) (f : Nat → Bool) (v : Nat → D) (ha : EvA K t M E M1 [rint n]) (hn : -16777000 ≤ n ∧ n ≤ 16777000) (h0 : Ms 0 = M1)
    (hb : ∀ i : Nat, (i : Int) < n → LcT K tt te Ms f v (E.set j (some (rint (i : Int)))) i) : EvD K (tLc (iRng1 t) (gName j) tt te [j]) M E (Ms n.toNat) (.dat (.lst (givD n.toNat f v))) := fun B F As σ H S Q q =>
  ha B F As σ H S _ fun vs F1 As1 H1 S1 e1 p1 r1 => by
    obtain ⟨w, rfl, hw⟩ := r1.one
    cases R.int_inv hw
    refine ⟨n, rfl, by omega, by omega, fun p hp => lc_range (lo := 0) (n := n.toNat) (LcW K F1 H1 As1 Ms f v σ E p) (lcw_start S1 hp h0) (fun i H' hi h => ?_) fun H' h => lcw_done S1 hp h fun u F' As' H' S' e' p' r' => q u F' As' H' S' (e1.trans e') (p1.trans p') r'⟩
    obtain ⟨Mt, h1, h2, h3⟩ := hb i (by omega)
    have e0 : (0 : Int) + (i : Int) = (i : Int) := Int.zero_add _
    rw [e0]
    exact ⟨wipe_one σ j _, lcw_turn h (by omega) (fun F' _ As' _ hE => hE.setW (r := rint (i : Int)) (.int _)) h1 h2 h3⟩
/-- .. the list to be changed later -/
theorem ev_lcR1M {t : TA} {tt : TT} {j : Nat} {n : Int} (Ms : Nat → List MC) (f : Nat → Bool) (v : Nat → D) (ha : EvA K t M E M1 [rint n]) (hn : -16777000 ≤ n ∧ n ≤ 16777000) (h0 : Ms 0 = M1)
    (hb : ∀ i : Nat, (i : Int) < n → LcT K tt te Ms f v (E.set j (some (rint (i : Int)))) i) : EvD K (tLc (iRng1 t) (gName j) tt te [j]) M E (Ms n.toNat ++ [.lst (givD n.toNat f v)]) (.cel (Ms n.toNat).length) := fun B F As σ H S Q q =>
  ha B F As σ H S _ fun vs F1 As1 H1 S1 e1 p1 r1 => by
    obtain ⟨w, rfl, hw⟩ := r1.one
    cases R.int_inv hw
    refine ⟨n, rfl, by omega, by omega, fun p hp => lc_range (lo := 0) (n := n.toNat) (LcW K F1 H1 As1 Ms f v σ E p) (lcw_start S1 hp h0) (fun i H' hi h => ?_) fun H' h => lcw_doneM S1 hp h fun u F' As' H' S' e' p' r' => q u F' As' H' S' (e1.trans e') (p1.trans p') r'⟩
    obtain ⟨Mt, h1, h2, h3⟩ := hb i (by omega)
    have e0 : (0 : Int) + (i : Int) = (i : Int) := Int.zero_add _
    rw [e0]
    exact ⟨wipe_one σ j _, lcw_turn h (by omega) (fun F' _ As' _ hE => hE.setW (r := rint (i : Int)) (.int _)) h1 h2 h3⟩
/-- [e for x in range(a, n) if t] -/
theorem ev_lcR2 {t : TA} {tt : TT} {j : Nat} {a n : Int} (Ms : Nat → List MC) (f : Nat → Bool) (v : Nat → D) (ha : EvA K t M E M1 [rint a, rint n]) (hn : -8000000 ≤ n ∧ n ≤ 8000000 ∧ -8000000 ≤ a ∧ a ≤ 8000000) (h0 : Ms 0 = M1)
    (hb : ∀ i : Nat, a + (i : Int) < n → LcT K tt te Ms f v (E.set j (some (rint (a + (i : Int))))) i) : EvD K (tLc (iRng2 t) (gName j) tt te [j]) M E (Ms (n - a).toNat) (.dat (.lst (givD (n - a).toNat f v))) := fun B F As σ H S Q q =>
  ha B F As σ H S _ fun vs F1 As1 H1 S1 e1 p1 r1 => by
    obtain ⟨w, w2, rfl, hw, hw2⟩ := r1.two
    cases R.int_inv hw; cases R.int_inv hw2
    refine ⟨a, n, rfl, ⟨by omega, by omega, by omega, by omega⟩, fun p hp => lc_range (lo := a) (n := (n - a).toNat) (LcW K F1 H1 As1 Ms f v σ E p) (lcw_start S1 hp h0) (fun i H' hi h => ?_) fun H' h => lcw_done S1 hp h fun u F' As' H' S' e' p' r' => q u F' As' H' S' (e1.trans e') (p1.trans p') r'⟩
    obtain ⟨Mt, h1, h2, h3⟩ := hb i (by omega)
    exact ⟨wipe_one σ j _, lcw_turn h (by omega) (fun F' _ As' _ hE => hE.setW (r := rint (a + (i : Int))) (.int _)) h1 h2 h3⟩
/-- [e for x in xs if t], xs data -/
theorem ev_lcL {tl : TE} {tt : TT} {j : Nat} {ds : List D} (Ms : Nat → List MC) (f : Nat → Bool) (v : Nat → D) (ha : EvD K tl M E M1 (.dat (.lst ds))) (hn : ds.length ≤ 16777000) (h0 : Ms 0 = M1)
    (hb : ∀ (i : Nat) (d : D), ds[i]? = some d → LcT K tt te Ms f v (E.set j (some (.dat d))) i) : EvD K (tLc (iList K tl) (gName j) tt te [j]) M E (Ms ds.length) (.dat (.lst (givD ds.length f v))) := fun B F As σ H S Q q =>
  ha B F As σ H S _ fun w F1 As1 H1 S1 e1 p1 r1 => by
    obtain ⟨a, ws, rfl, hA, pa⟩ := R.lst_inv r1
    refine ⟨a, rfl, ⟨ws, SqL.of (S1.ex _ _ hA)⟩, fun p hp => lc_list (K := K) (a := a) (xs := ws) (LcW K F1 H1 As1 Ms f v σ E p) (lcw_start S1 hp h0) (fun i H' _ ⟨F', As', acc, S', _⟩ => SqL.of (S'.ex _ _ (S'.bF _ _ hA))) (fun i x H' hi h => ?_) fun H' h => ?_⟩
    · obtain ⟨d, hd, rd⟩ := pa.flip.get hi
      obtain ⟨Mt, h1, h2, h3⟩ := hb i d hd
      have hil := (List.getElem?_eq_some_iff.mp hd).1
      exact ⟨wipe_one σ j _, lcw_turn h (by omega) (fun F' eF As' _ hE => hE.setW (r := .dat d) (R.mono rd eF)) h1 h2 h3⟩
    · rw [← pa.1] at h
      exact lcw_done S1 hp h fun u F' As' H' S' e' p' r' => q u F' As' H' S' (e1.trans e') (p1.trans p') r'
theorem et_yes : EvT K tYes M E M true := fun B F As σ H S Q q => q F As H S (Ex.refl F) (List.prefix_refl _)
/-- a turn without a test that leaves the cells -/
theorem LcT.plain {v : Nat → D} {E2 : List (Option Rv)} {i : Nat} (h : EvD K te M E2 M (.dat (v i))) : LcT K tYes te (fun _ => M) (fun _ => true) v E2 i := ⟨M, et_yes, fun _ => h, fun z => by cases z⟩
theorem LcT.moved {Ms : Nat → List MC} {v : Nat → D} {E2 : List (Option Rv)} {i : Nat} (h : EvD K te (Ms i) E2 (Ms (i + 1)) (.dat (v i))) : LcT K tYes te Ms (fun _ => true) v E2 i := ⟨Ms i, et_yes, fun _ => h, fun z => by cases z⟩
theorem LcT.tested {tt : TT} {f : Nat → Bool} {v : Nat → D} {E2 : List (Option Rv)} {i : Nat} (ht : EvT K tt M E2 M (f i)) (h : f i = true → EvD K te M E2 M (.dat (v i))) : LcT K tt te (fun _ => M) f v E2 i := ⟨M, ht, h, fun _ => rfl⟩
theorem givD_all (n : Nat) (v : Nat → D) : givD n (fun _ => true) v = (List.range n).map v := by
  unfold givD
  rw [List.filter_eq_self.mpr (fun _ _ => rfl)]
end
end DL
set_option Elab.async false
set_option linter.all false
set_option maxRecDepth 100000
set_option maxHeartbeats 2000000
/-! DL, fifth part: the promise of a def by data (FSp), its way in, its way out, its call. -/
namespace DL
open PySem L2
open Evl (Ex)
/-- what a def gives: data, or a new cell that nobody else holds; or it raises an own error, with its fields -/
inductive Out where
  | ret (d : D) | new (mc : MC) | exc (C : Addr) (fs : List (Str × D))
/-- behind the def: its frame's state, the cells that were handed in first -/
structure Fin (K : PySem.W.Frag) (F H : Hp) (As : List Addr) (M' : List MC) (F' H' : Hp) (As' : List Addr) (M'' : List MC) : Prop where
  sta : ∃ σ E, Sta K (Sta.self F H As) F' As' M'' σ E H'
  pre : As <+: As'
  cut : M''.take As.length = M'
  len : M'.length = As.length
def FSp (K : PySem.W.Frag) (Φ : List MC → List Rv → List MC → Out → Prop) : Sp := fun vs H Q E => ∃ F As M rs M' o,
  Sta K (Sta.self F H As) F As M (vs.map some) (rs.map some) H ∧ Live M ∧ Φ M rs M' o ∧ match o with
    | .ret d => ∀ v F' As' M'' H', Fin K F H As M' F' H' As' M'' → R K F' d v → Q v H'
    | .new mc => ∀ v k F' As' M'' H', Fin K F H As M' F' H' As' M'' → As.length ≤ k → M''[k]? = some mc → mc ≠ .gone → RV K F' As' (.cel k) v → Q v H'
    | .exc C fs => ∀ dd ws F' As' M'' H', Fin K F H As M' F' H' As' M'' → H' dd = none → PK (R K F') fs ws → E (.ref C) (some dd) (upd H' dd (.xd ws))
section
variable {K : PySem.W.Frag} {B : Base} {F F' F1 H H' H1 : Hp} {As As' As1 : List Addr} {M M0 M0' M1 M2 M3 M' M'' : List MC} {σ σ' : St} {E E' : List (Option Rv)} {ta tb te tx : TE} {x y z r : Rv} {op : R2} {xs rs rs0 : List Rv} {b : Bool} {Φ : List MC → List Rv → List MC → Out → Prop}
/-! ### the call -/
/-- no cell goes in -/
theorem ev_call0 {t : TA} {d : D} (ha : EvA K t M E M1 xs) (hx : dats xs ≠ none) (hΦ : Φ [] xs [] (.ret d)) : EvD K (tCall (FSp K Φ) [] E0 t) M E M1 (.dat d) := fun B F As σ H S Q q =>
  ha B F As σ H S _ fun vs F1 As1 H1 S1 e1 p1 r1 => by
    rw [List.append_nil]
    obtain ⟨ds, hds⟩ := Option.ne_none_iff_exists'.mp hx
    have hxs := dats_eq hds
    have r0 : P2 (RV K F1 []) xs vs := by
      rw [hxs] at r1 ⊢
      refine ⟨r1.1, fun i x y a b => ?_⟩
      have := r1.2 i x y a b
      rw [List.getElem?_map] at a
      cases c : ds[i]? with
      | none => rw [c] at a; cases a
      | some d => rw [c] at a; cases a; exact this
    refine ⟨F1, [], [], xs, [], .ret d, ⟨S1.ex, rfl, List.nodup_nil, fun k a mc h => by simp at h, ⟨by simp [r1.1], fun i r h => ?_⟩, Ex.refl F1, fun a o h _ => h, fun a o _ h => h, fun a h => (by cases h), fun a o h => ⟨o, h⟩, fun a h => (by cases h), List.prefix_refl _⟩, Live.nil, hΦ, fun v F' As' M'' H' fin rv => ?_⟩
    · rw [List.getElem?_map] at h
      cases c : xs[i]? with
      | none => rw [c] at h; cases h
      | some x =>
        rw [c] at h; cases h
        obtain ⟨v, hv, rv⟩ := r0.get c
        exact ⟨v, by rw [List.getElem?_map, hv]; rfl, rv⟩
    · obtain ⟨σ', E', S'⟩ := fin.sta
      have keep : ∀ a o, H1 a = some o → H' a = some o := fun a o h => S'.bH a o h (fun z => by cases z)
      have S2 : Sta K B F' As1 M1 σ E H' := by
        refine ⟨S'.ex, S1.len, S1.nd, fun k a mc h1 h2 h3 => ?_, S1.slots.mono S'.bF (List.prefix_refl _), S1.bF.trans S'.bF, fun a o h hP => keep _ _ (S1.bH a o h hP), fun a o h h0 => ?_, S1.bA, fun a o h => ?_, fun a h => ?_, S1.pA⟩
        · obtain ⟨h4, o, h5, h6⟩ := S1.cell k a mc h1 h2 h3
          exact ⟨S'.bN a o h5 h4, o, keep _ _ h5, h6.mono S'.bF⟩
        · obtain ⟨u, hu⟩ := S1.bK a o h
          exact S'.bN a u hu (S1.bN a o h h0)
        · obtain ⟨u, hu⟩ := S1.bK a o h
          exact ⟨u, keep _ _ hu⟩
        · obtain ⟨u, hu⟩ := S1.kn a h
          exact ⟨u, keep _ _ hu⟩
      exact q v F' As1 H' S2 (e1.trans S'.bF) p1 rv
/-- the caller's state behind a call with the cell k handed in -/
theorem Sta.after1 {k : Nat} {a : Addr} {mc mc' : MC} {o0 : HO} (S1 : Sta K B F1 As1 M1 σ E H1) (ha : As1[k]? = some a) (hk : M1[k]? = some mc) (fin : Fin K F1 H1 [a] [mc'] F' H' As' M'') :
    Sta K B F' As1 (M1.set k mc') σ E H' := by
  obtain ⟨σ', E', S'⟩ := fin.sta
  have keep : ∀ b o, H1 b = some o → b ≠ a → H' b = some o := fun b o h hb => S'.bH b o h (fun z => hb (by simpa [Sta.self] using z))
  obtain ⟨t, ht⟩ := fin.pre
  have hA0 : As'[0]? = some a := by rw [← ht]; rfl
  have hM0 : M''[0]? = some mc' := by
    have := fin.cut
    have h2 : (M''.take 1)[0]? = some mc' := by
      have h3 : M''.take 1 = [mc'] := this
      rw [h3]; rfl
    rw [List.getElem?_take] at h2
    simpa using h2
  refine ⟨S'.ex, by rw [List.length_set]; exact S1.len, S1.nd, fun j b m h1 h2 h3 => ?_, S1.slots.mono S'.bF (List.prefix_refl _), S1.bF.trans S'.bF, fun b o h hP => ?_, fun b o h h0 => ?_, S1.bA, fun b o h => ?_, fun b h => ?_, S1.pA⟩
  · by_cases e : k = j
    · subst e
      rw [ha] at h1; cases h1
      rw [List.getElem?_set_self (List.getElem?_eq_some_iff.mp hk).1] at h2
      cases h2
      exact S'.cell 0 a mc' hA0 hM0 h3
    · rw [List.getElem?_set_ne e] at h2
      obtain ⟨h4, o, h5, h6⟩ := S1.cell j b m h1 h2 h3
      have hb : b ≠ a := fun z => e (S1.uniq ha (z ▸ h1))
      exact ⟨S'.bN b o h5 h4, o, keep _ _ h5 hb, h6.mono S'.bF⟩
  · refine keep _ _ (S1.bH b o h hP) fun z => ?_
    rcases S1.bA a (List.mem_of_getElem? ha) with q | q
    · exact hP (z ▸ q)
    · rw [z, q] at h; cases h
  · obtain ⟨u, hu⟩ := S1.bK b o h
    exact S'.bN b u hu (S1.bN b o h h0)
  · obtain ⟨u, hu⟩ := S1.bK b o h
    exact S'.bK b u hu
  · obtain ⟨u, hu⟩ := S1.kn b h
    exact S'.bK b u hu
theorem Sta.before1 {k : Nat} {a : Addr} {mc : MC} {vs : List V} (S1 : Sta K B F1 As1 M1 σ E H1) (ha : As1[k]? = some a) (hk : M1[k]? = some mc) (hg : mc ≠ .gone) {rs0 : List Rv} (r0 : P2 (RV K F1 [a]) rs0 vs) :
    Sta K (Sta.self F1 H1 [a]) F1 [a] [mc] (vs.map some) (rs0.map some) H1 := by
  obtain ⟨g1, o1, g2, g3⟩ := S1.cell k a mc ha hk hg
  refine ⟨S1.ex, rfl, by simp, fun j b m h1 h2 h3 => ?_, ⟨by simp [r0.1], fun i r h => ?_⟩, Ex.refl F1, fun b o h _ => h, fun b o _ h => h, fun b h => .inl h, fun b o h => ⟨o, h⟩, fun b h => ?_, List.prefix_refl _⟩
  · cases j with
    | zero => cases h1; cases h2; exact ⟨g1, o1, g2, g3⟩
    | succ j => simp at h1
  · rw [List.getElem?_map] at h
    cases c : rs0[i]? with
    | none => rw [c] at h; cases h
    | some x =>
      rw [c] at h; cases h
      obtain ⟨v, hv, rv⟩ := r0.get c
      exact ⟨v, by rw [List.getElem?_map, hv]; rfl, rv⟩
  · have : b = a := by simpa using h
    subst this
    exact ⟨o1, g2⟩
/-- the first argument is a cell, all others are data -/
theorem ev_call1 {t : TA} {k : Nat} {ds : List Rv} {mc mc' : MC} {d : D} (ha : EvA K t M E M1 (.cel k :: ds)) (hx : dats ds ≠ none) (hk : M1[k]? = some mc) (hg : mc ≠ .gone) (hΦ : Φ [mc] (.cel 0 :: ds) [mc'] (.ret d)) :
    EvD K (tCall (FSp K Φ) [] E0 t) M E (M1.set k mc') (.dat d) := fun B F As σ H S Q q =>
  ha B F As σ H S _ fun vs F1 As1 H1 S1 e1 p1 r1 => by
    rw [List.append_nil]
    obtain ⟨es, hds⟩ := Option.ne_none_iff_exists'.mp hx
    have hxs := dats_eq hds
    obtain ⟨v0, ws, rfl, ⟨a, hA, rfl⟩, rw_⟩ := r1.inv_cons
    have r0 : P2 (RV K F1 [a]) (.cel 0 :: ds) (.ref a :: ws) := by
      refine P2.cons ⟨a, rfl, rfl⟩ ?_
      rw [hxs] at rw_ ⊢
      refine ⟨rw_.1, fun i x y a b => ?_⟩
      have := rw_.2 i x y a b
      rw [List.getElem?_map] at a
      cases c : es[i]? with
      | none => rw [c] at a; cases a
      | some d => rw [c] at a; cases a; exact this
    refine ⟨F1, [a], [mc], _, [mc'], .ret d, S1.before1 hA hk hg r0, fun m hm => ?_, hΦ, fun v F' As' M'' H' fin rv => ?_⟩
    · have : m = mc := by simpa using hm
      rw [this]; exact hg
    · have S2 := S1.after1 (o0 := .lst []) hA hk fin
      obtain ⟨σ', E', S'⟩ := fin.sta
      exact q v F' As1 H' S2 (e1.trans S'.bF) p1 rv
/-- what is known of a cell is forgotten -/
theorem Sta.forget (S : Sta K B F As M σ E H) (k : Nat) : Sta K B F As (M.set k .gone) σ E H :=
  { S with
    len := by rw [List.length_set]; exact S.len
    cell := fun j a mc h1 h2 h3 => by
      by_cases e : k = j
      · subst e
        by_cases hk : k < M.length
        · rw [List.getElem?_set_self hk] at h2
          cases h2
          exact absurd rfl h3
        · rw [List.getElem?_eq_none (by rw [List.length_set]; omega)] at h2
          cases h2
      · rw [List.getElem?_set_ne e] at h2
        exact S.cell j a mc h1 h2 h3 }
/-- no cell goes in, a new cell comes out -/
theorem ev_callN {t : TA} {mc : MC} (ha : EvA K t M E M1 xs) (hx : dats xs ≠ none) (hΦ : Φ [] xs [] (.new mc)) : EvD K (tCall (FSp K Φ) [] E0 t) M E (M1 ++ [mc]) (.cel M1.length) := fun B F As σ H S Q q =>
  ha B F As σ H S _ fun vs F1 As1 H1 S1 e1 p1 r1 => by
    rw [List.append_nil]
    obtain ⟨ds, hds⟩ := Option.ne_none_iff_exists'.mp hx
    have hxs := dats_eq hds
    have r0 : P2 (RV K F1 []) xs vs := by
      rw [hxs] at r1 ⊢
      refine ⟨r1.1, fun i x y a b => ?_⟩
      have := r1.2 i x y a b
      rw [List.getElem?_map] at a
      cases c : ds[i]? with
      | none => rw [c] at a; cases a
      | some d => rw [c] at a; cases a; exact this
    refine ⟨F1, [], [], xs, [], .new mc, ⟨S1.ex, rfl, List.nodup_nil, fun k a mc h => by simp at h, ⟨by simp [r1.1], fun i r h => ?_⟩, Ex.refl F1, fun a o h _ => h, fun a o _ h => h, fun a h => (by cases h), fun a o h => ⟨o, h⟩, fun a h => (by cases h), List.prefix_refl _⟩, Live.nil, hΦ, fun v k F' As' M'' H' fin hk hm hg rv => ?_⟩
    · rw [List.getElem?_map] at h
      cases c : xs[i]? with
      | none => rw [c] at h; cases h
      | some x =>
        rw [c] at h; cases h
        obtain ⟨v, hv, rv⟩ := r0.get c
        exact ⟨v, by rw [List.getElem?_map, hv]; rfl, rv⟩
    · obtain ⟨σ', E', S'⟩ := fin.sta
      obtain ⟨a, hA, rfl⟩ := rv
      have keep : ∀ a o, H1 a = some o → H' a = some o := fun a o h => S'.bH a o h (fun z => by cases z)
      obtain ⟨g1, o, g2, g3⟩ := S'.cell k a mc hA hm hg
      have new : H1 a = none := by
        rcases S'.bA a (List.mem_of_getElem? hA) with q | q
        · cases q
        · exact q
      have hnA : a ∉ As1 := S1.off new
      have S2 : Sta K B F' (As1 ++ [a]) (M1 ++ [mc]) σ E H' := by
        refine ⟨S'.ex, by rw [List.length_append, List.length_append, S1.len]; rfl, ?_, fun k b m h1 h2 h3 => ?_, S1.slots.mono S'.bF (List.prefix_append _ _), S1.bF.trans S'.bF, fun b o h hP => keep _ _ (S1.bH b o h hP), fun b o h h0 => ?_, fun b h => ?_, fun b o h => ?_, fun b h => ?_, S1.pA.trans (List.prefix_append _ _)⟩
        · rw [List.nodup_append]
          refine ⟨S1.nd, by simp, fun x hx y hy e => ?_⟩
          simp at hy
          subst e; subst hy; exact hnA hx
        · rcases getElem?_concat h1 with q1 | ⟨q1, q2⟩
          · rcases getElem?_concat h2 with q3 | ⟨q3, q4⟩
            · obtain ⟨h4, o, h5, h6⟩ := S1.cell k b m q1 q3 h3
              exact ⟨S'.bN b o h5 h4, o, keep _ _ h5, h6.mono S'.bF⟩
            · have := (List.getElem?_eq_some_iff.mp q1).1
              rw [S1.len] at this; omega
          · rcases getElem?_concat h2 with q3 | ⟨q3, q4⟩
            · have := (List.getElem?_eq_some_iff.mp q3).1
              rw [← S1.len] at this; omega
            · subst q2; subst q4
              exact ⟨g1, o, g2, g3⟩
        · obtain ⟨u, hu⟩ := S1.bK b o h
          exact S'.bN b u hu (S1.bN b o h h0)
        · rcases List.mem_append.mp h with h | h
          · exact S1.bA b h
          · simp at h; subst h; exact .inr (S1.base_off new)
        · obtain ⟨u, hu⟩ := S1.bK b o h
          exact ⟨u, keep _ _ hu⟩
        · rcases List.mem_append.mp h with h | h
          · obtain ⟨u, hu⟩ := S1.kn b h
            exact ⟨u, keep _ _ hu⟩
          · simp at h; subst h; exact ⟨o, g2⟩
      exact q _ F' (As1 ++ [a]) H' S2 (e1.trans S'.bF) (p1.trans (List.prefix_append _ _)) ⟨a, by rw [List.getElem?_append_right (by rw [S1.len]; exact Nat.le_refl _), S1.len]; simp, rfl⟩
/-! ### the way in, the way out -/
theorem start_eq (N : List Str) (vs : List V) : start N vs = vs.map some ++ List.replicate (N.length - vs.length) none := rfl
/-- the slots at the start of a def of n names -/
def ent (n : Nat) (rs : List Rv) : List (Option Rv) := rs.map some ++ List.replicate (n - rs.length) none
theorem Sta.enter {vs : List V} (N : List Str) (S : Sta K B F As M (vs.map some) (rs.map some) H) : Sta K B F As M (start N vs) (ent N.length rs) H := by
  have hl : rs.length = vs.length := by have := S.slots.1; simpa using this
  refine { S with slots := ⟨by rw [start_eq, ent]; simp [hl], fun i r h => ?_⟩ }
  by_cases hi : i < rs.length
  · have h : (rs.map some)[i]? = some (some r) := by
      rw [ent, List.getElem?_append_left (by rw [List.length_map]; exact hi)] at h
      exact h
    obtain ⟨v, h1, h2⟩ := S.slots.2 i r h
    exact ⟨v, by rw [start_eq, List.getElem?_append_left (by rw [List.length_map]; omega)]; exact h1, h2⟩
  · rw [ent, List.getElem?_append_right (by rw [List.length_map]; omega), List.getElem?_replicate] at h
    split at h
    · cases h
    · cases h
/-- a def's body by data: from its promise to its reading -/
theorem FSp.reading {N : List Str} {vs : List V} {H : Hp} {Q : VK} {X : XK} {t : TS} (h : FSp K Φ vs H Q X)
    (body : ∀ F As M rs M' o, Φ M rs M' o → Live M → ∀ B : Base, Sta K B F As M (start N vs) (ent N.length rs) H → (∀ a, B.P a → a ∈ B.A0) → B.A0.length = M.length →
      (match o with
        | .ret d => (∀ v F' As' M'' σ' E' H', Sta K B F' As' M'' σ' E' H' → M''.take M.length = M' → R K F' d v → Q v H')
        | .new mc => (∀ v k F' As' M'' σ' E' H', Sta K B F' As' M'' σ' E' H' → M''.take M.length = M' → M.length ≤ k → M''[k]? = some mc → mc ≠ .gone → RV K F' As' (.cel k) v → Q v H')
        | .exc C fs => (∀ dd ws F' As' M'' σ' E' H', Sta K B F' As' M'' σ' E' H' → M''.take M.length = M' → H' dd = none → PK (R K F') fs ws → X (.ref C) (some dd) (upd H' dd (.xd ws)))) →
      t { nx := fun _ H' => Q .non H', rt := Q } (start N vs) H) : t { nx := fun _ H' => Q .non H', rt := Q } (start N vs) H := by
  obtain ⟨F, As, M, rs, M', o, S, hL, hΦ, post⟩ := h
  have len : ∀ {F' As' M'' H' σ' E'}, Sta K (Sta.self F H As) F' As' M'' σ' E' H' → As <+: As' → M''.take M.length = M' → Fin K F H As M' F' H' As' M'' := fun {F' As' M'' H' σ' E'} S' p c => by
    have l1 := S.len
    refine ⟨⟨_, _, S'⟩, p, by rw [l1]; exact c, ?_⟩
    rw [← c, List.length_take, l1]
    have l2 := S'.len
    obtain ⟨t, ht⟩ := p
    have : As'.length = As.length + t.length := by rw [← ht, List.length_append]
    omega
  refine body F As M rs M' o hΦ hL (Sta.self F H As) (S.enter N) (fun a h => h) S.len ?_
  cases o with
  | ret d => exact fun v F' As' M'' σ' E' H' S' c rv => post v F' As' M'' H' (len S' S'.pA c) rv
  | new mc => exact fun v k F' As' M'' σ' E' H' S' c hk h1 h2 rv => post v k F' As' M'' H' (len S' S'.pA c) (by rw [S.len]; exact hk) h1 h2 rv
  | exc C fs => exact fun dd ws F' As' M'' σ' E' H' S' c h1 h2 => post dd ws F' As' M'' H' (len S' S'.pA c) h1 h2
theorem FSp.len {vs : List V} {H : Hp} {Q : VK} {X : XK} {n : Nat} (h : FSp K Φ vs H Q X) (hn : ∀ M rs M' o, Φ M rs M' o → rs.length = n) : vs.length = n := by
  obtain ⟨F, As, M, rs, M', o, S, hL, hΦ, _⟩ := h
  have := S.slots.1
  simp at this
  rw [← this]
  exact hn _ _ _ _ hΦ
end
end DL
set_option Elab.async false
set_option linter.all false
set_option maxRecDepth 100000
set_option maxHeartbeats 2000000
/-! DL, sixth part: statements and loops. -/
namespace DL
open PySem L2
open Evl (Ex)
/-- the item of a list that is read ahead of a store to its place -/
theorem pget_list {X : Cx} : PGet X (rIxL X.K) := by
  intro pns sh sl Hh xv yv vv uu Qw Iv rx ry hw
  obtain ⟨aa, ws, ii, zz, rfl, rfl, hsq, hat, qq⟩ := hw
  cases rx
  obtain ⟨tk, rfl⟩ := ry
  obtain ⟨its, rvs, hpl, hsz⟩ := Iv.list hsq
  obtain ⟨jj, g1, g2, g3, g4, g5⟩ := atI_get hat
  obtain ⟨w2, ew, rw2⟩ := rvs.get g2
  have hlen := rvs.length
  have hline := line63
  have done : EP X pns sl Qw w2 sh := ⟨zz, Hh, Iv, rw2, qq⟩
  by_cases h0 : 0 ≤ ii
  · have hj : ii.toNat = jj := by
      rw [seqIndex_of h0 g5] at g1
      exact Option.some.inj g1
    exact wpAny_getItem_list hpl.isList h0 (by omega) (by rw [hj]; simpa using ew) done
  · have hj : (ii + (its.toArray.size : Int)).toNat = jj := by
      rw [seqIndex_neg (by omega) g4] at g1
      rw [List.size_toArray, ← hlen]
      exact Option.some.inj g1
    exact wpAny_getItem_list_neg hpl.isList (by omega) (by rw [List.size_toArray] <;> omega) (by omega) (by rw [hj]; simpa using ew) done
section
variable {K : PySem.W.Frag} {B : Base} {F F' F1 H H' H1 : Hp} {As As' As1 : List Addr} {M M0 M0' M1 M2 M3 M' M'' : List MC} {σ σ' : St} {E E' : List (Option Rv)} {ta tb te tx : TE} {x y z r : Rv} {op : R2} {xs rs rs0 : List Rv} {b : Bool} {D : Ends} {t u t1 t2 : TS} {d : DL.D}
/-- what is wanted behind a state -/
abbrev Nxt (K : PySem.W.Frag) (B : Base) (M : List MC) (E : List (Option Rv)) (Q : St → Hp → Prop) : Prop := ∀ F As σ H, Sta K B F As M σ E H → Q σ H
theorem s_set {i : Nat} (S : Sta K B F As M σ E H) (h : EvD K te M E M' r) (k : Nxt K B M' (E.set i (some r)) D.nx) : tAsg te (gName i) D σ H :=
  h B F As σ H S _ fun v F1 As1 H1 S1 _ _ rv => k F1 As1 _ H1 (S1.set rv)
theorem q_set {i : Nat} (S : Sta K B F As M σ E H) (h : EvD K te M E M' r) (k : Nxt K B M' (E.set i (some r)) (u D)) : tSeq (tAsg te (gName i)) u D σ H := s_set (D := { D with nx := u D }) S h k
theorem s_tup2 {i j : Nat} {d1 d2 : DL.D} (S : Sta K B F As M σ E H) (h : EvD K te M E M' (.dat (.tup [d1, d2]))) (k : Nxt K B M' ((E.set i (some (.dat d1))).set j (some (.dat d2))) D.nx) : tAsg te (gTup K 2 (gCons (gName i) (gCons (gName j) gNil))) D σ H :=
  h B F As σ H S _ fun v F1 As1 H1 S1 _ _ rv => by
    obtain ⟨a, vs, rfl, ha, pa⟩ := R.tup_inv rv
    obtain ⟨v1, ws, rfl, r1, pa⟩ := pa.inv_cons
    obtain ⟨v2, ws, rfl, r2, pa⟩ := pa.inv_cons
    have := pa.inv_nil; subst this
    exact ⟨a, [v1, v2], rfl, SqT.of (S1.ex _ _ ha), rfl, v1, [v2], rfl, v2, [], rfl, rfl, k _ _ _ _ ((S1.set (r := .dat d1) r1).set (r := .dat d2) r2)⟩
theorem q_tup2 {i j : Nat} {d1 d2 : DL.D} (S : Sta K B F As M σ E H) (h : EvD K te M E M' (.dat (.tup [d1, d2]))) (k : Nxt K B M' ((E.set i (some (.dat d1))).set j (some (.dat d2))) (u D)) : tSeq (tAsg te (gTup K 2 (gCons (gName i) (gCons (gName j) gNil)))) u D σ H := s_tup2 (D := { D with nx := u D }) S h k
/-- xs[i] = e, xs a cell -/
theorem s_setL {k : Nat} {ds : List DL.D} {i : Int} (S : Sta K B F As M σ E H) (h : EvD K te M E M1 (.dat d)) (ho : EvD K ta M1 E M2 (.cel k)) (hi : EvD K tb M2 E M3 (rint i)) (hk : M3[k]? = some (.lst ds)) (h0 : 0 ≤ i) (h1 : i < ds.length)
    (kk : Nxt K B (M3.set k (.lst (ds.set i.toNat d))) E D.nx) : tAsg te (gSub ta tb rSetL) D σ H :=
  h B F As σ H S _ fun v F1 As1 H1 S1 e1 p1 r1 => ho B F1 As1 σ H1 S1 _ fun v2 F2 As2 H2 S2 e2 p2 r2 => hi B F2 As2 σ H2 S2 _ fun v3 F3 As3 H3 S3 e3 p3 r3 => by
    obtain ⟨a, hA, rfl⟩ := r2
    have hA := prefix_get p3 hA
    cases R.int_inv r3
    obtain ⟨_, o, ho, vs, rfl, pa⟩ := S3.cell k a _ hA hk (by intro z; cases z)
    have rd : R K F3 d v := R.mono r1 (e2.trans e3)
    refine ⟨a, vs, i, i.toNat, rfl, rfl, ho, ?_, kk _ _ _ _ (S3.chg hA hk (by intro z; cases z) ⟨_, rfl, pa.set rd⟩)⟩
    unfold ixN
    rw [if_pos h0, if_pos (by rw [← pa.1]; omega)]
theorem q_setL {k : Nat} {ds : List DL.D} {i : Int} (S : Sta K B F As M σ E H) (h : EvD K te M E M1 (.dat d)) (ho : EvD K ta M1 E M2 (.cel k)) (hi : EvD K tb M2 E M3 (rint i)) (hk : M3[k]? = some (.lst ds)) (h0 : 0 ≤ i) (h1 : i < ds.length)
    (kk : Nxt K B (M3.set k (.lst (ds.set i.toNat d))) E (u D)) : tSeq (tAsg te (gSub ta tb rSetL)) u D σ H := s_setL (D := { D with nx := u D }) S h ho hi hk h0 h1 kk
theorem s_setLI {k : Nat} {ns : List Int} {i e : Int} (S : Sta K B F As M σ E H) (h : EvD K te M E M1 (rint e)) (ho : EvD K ta M1 E M2 (.cel k)) (hi : EvD K tb M2 E M3 (rint i)) (hk : M3[k]? = some (.lst (ns.map DL.D.int))) (h0 : 0 ≤ i) (h1 : i < ns.length)
    (kk : Nxt K B (M3.set k (.lst ((ns.set i.toNat e).map DL.D.int))) E D.nx) : tAsg te (gSub ta tb rSetL) D σ H :=
  s_setL S h ho hi hk h0 (by rw [List.length_map]; exact h1) (by rw [List.map_set] at kk; exact kk)
theorem q_setLI {k : Nat} {ns : List Int} {i e : Int} (S : Sta K B F As M σ E H) (h : EvD K te M E M1 (rint e)) (ho : EvD K ta M1 E M2 (.cel k)) (hi : EvD K tb M2 E M3 (rint i)) (hk : M3[k]? = some (.lst (ns.map DL.D.int))) (h0 : 0 ≤ i) (h1 : i < ns.length)
    (kk : Nxt K B (M3.set k (.lst ((ns.set i.toNat e).map DL.D.int))) E (u D)) : tSeq (tAsg te (gSub ta tb rSetL)) u D σ H := s_setLI (D := { D with nx := u D }) S h ho hi hk h0 h1 kk
/-- xs[i] op= e, xs a cell of numbers -/
theorem s_augS {f : Int → Int → Int} {k : Nat} {ns : List Int} {i e : Int} (S : Sta K B F As M σ E H) (ho : EvD K ta M E M1 (.cel k)) (hi : EvD K tb M1 E M2 (rint i)) (he : EvD K te M2 E M3 (rint e)) (hk2 : M2[k]? = some (.lst (ns.map DL.D.int))) (hk3 : M3[k]? = some (.lst (ns.map DL.D.int))) (h0 : 0 ≤ i) (h1 : i < ns.length)
    (kk : Nxt K B (M3.set k (.lst ((ns.set i.toNat (f (gI ns i) e)).map DL.D.int))) E D.nx) : tAugS ta tb te (rIxL K) (ipI f) rSetL D σ H :=
  ho B F As σ H S _ fun v F1 As1 H1 S1 e1 p1 r1 => hi B F1 As1 σ H1 S1 _ fun v2 F2 As2 H2 S2 e2 p2 r2 =>
    od_ixI (.inr ⟨k, rfl, hk2⟩) h0 h1 B F2 As2 σ E H2 v v2 S2 (r1.m e2 p2) r2 _ fun w F2' As2' H2' S2' e2' p2' r2' => he B F2' As2' σ H2' S2' _ fun v3 F3 As3 H3 S3 e3 p3 r3 => by
    cases R.int_inv r2'
    cases R.int_inv r3
    refine ⟨_, _, rfl, rfl, ?_⟩
    obtain ⟨a, hA, rfl⟩ := r1
    have hA := prefix_get (p2.trans (p2'.trans p3)) hA
    cases R.int_inv r2
    obtain ⟨_, o, ho, vs, rfl, pa⟩ := S3.cell k a _ hA hk3 (by intro z; cases z)
    refine ⟨a, vs, i, i.toNat, rfl, rfl, ho, ?_, kk _ _ _ _ (S3.chg hA hk3 (by intro z; cases z) ⟨_, rfl, ?_⟩)⟩
    · unfold ixN
      have := pa.1
      rw [List.length_map] at this
      rw [if_pos h0, if_pos (by omega)]
    · rw [List.map_set]
      exact pa.set (.int _)
theorem q_augS {f : Int → Int → Int} {k : Nat} {ns : List Int} {i e : Int} (S : Sta K B F As M σ E H) (ho : EvD K ta M E M1 (.cel k)) (hi : EvD K tb M1 E M2 (rint i)) (he : EvD K te M2 E M3 (rint e)) (hk2 : M2[k]? = some (.lst (ns.map DL.D.int))) (hk3 : M3[k]? = some (.lst (ns.map DL.D.int))) (h0 : 0 ≤ i) (h1 : i < ns.length)
    (kk : Nxt K B (M3.set k (.lst ((ns.set i.toNat (f (gI ns i) e)).map DL.D.int))) E (u D)) : tSeq (tAugS ta tb te (rIxL K) (ipI f) rSetL) u D σ H := s_augS (D := { D with nx := u D }) S ho hi he hk2 hk3 h0 h1 kk
theorem s_aug {i : Nat} {f : Int → Int → Int} {a c : Int} (S : Sta K B F As M σ E H) (hx : E[i]? = some (some (rint a))) (h : EvD K te M E M' (rint c)) (k : Nxt K B M' (E.set i (some (rint (f a c)))) D.nx) : tAug i te (ipI f) D σ H := by
  obtain ⟨v, hv, rv⟩ := S.slots.2 i _ hx
  cases R.int_inv rv
  exact ⟨_, hv, h B F As σ H S _ fun w F1 As1 H1 S1 _ _ rw_ => by
    cases R.int_inv rw_
    exact ⟨a, c, rfl, rfl, k _ _ _ _ (S1.set (r := rint (f a c)) (.int _))⟩⟩
theorem q_aug {i : Nat} {f : Int → Int → Int} {a c : Int} (S : Sta K B F As M σ E H) (hx : E[i]? = some (some (rint a))) (h : EvD K te M E M' (rint c)) (k : Nxt K B M' (E.set i (some (rint (f a c)))) (u D)) : tSeq (tAug i te (ipI f)) u D σ H := s_aug (D := { D with nx := u D }) S hx h k
/-- d[k] = e, d a cell -/
theorem s_dput {j : Nat} {kvs : List (Key × DL.D)} {kd : DL.D} {kk : Key} (S : Sta K B F As M σ E H) (h : EvD K te M E M1 (.dat d)) (ho : EvD K ta M1 E M2 (.cel j)) (hi : EvD K tb M2 E M3 (.dat kd)) (hkk : kd.key = some kk) (hk : M3[j]? = some (.dct kvs)) (hl : kvs.length < 16777216)
    (k : Nxt K B (M3.set j (.dct (putG kvs kk d))) E D.nx) : sDPut ta tb te D σ H :=
  h B F As σ H S _ fun v F1 As1 H1 S1 e1 p1 r1 => ho B F1 As1 σ H1 S1 _ fun v2 F2 As2 H2 S2 e2 p2 r2 => hi B F2 As2 σ H2 S2 _ fun v3 F3 As3 H3 S3 e3 p3 r3 => by
    obtain ⟨a, hA, rfl⟩ := r2
    have hA := prefix_get p3 hA
    have ek := R.key r3 hkk
    obtain ⟨_, o, ho, ws, rfl, pa⟩ := S3.cell j a _ hA hk (by intro z; cases z)
    have rd : R K F3 d v := R.mono r1 (e2.trans e3)
    exact ⟨a, _, rfl, .inl ⟨ws, kk, ho, ek, szlt (by rw [← pa.1]; exact hl), rfl⟩, k _ _ _ _ (S3.chg hA hk (by intro z; cases z) ⟨_, rfl, PK.put pa rd⟩)⟩
theorem q_dput {j : Nat} {kvs : List (Key × DL.D)} {kd : DL.D} {kk : Key} (S : Sta K B F As M σ E H) (h : EvD K te M E M1 (.dat d)) (ho : EvD K ta M1 E M2 (.cel j)) (hi : EvD K tb M2 E M3 (.dat kd)) (hkk : kd.key = some kk) (hk : M3[j]? = some (.dct kvs)) (hl : kvs.length < 16777216)
    (k : Nxt K B (M3.set j (.dct (putG kvs kk d))) E (u D)) : tSeq (sDPut ta tb te) u D σ H := s_dput (D := { D with nx := u D }) S h ho hi hkk hk hl k
/-- xs.append(e), xs a cell -/
theorem s_app {k : Nat} {ds : List DL.D} (S : Sta K B F As M σ E H) (ho : EvD K ta M E M1 (.cel k)) (h : EvD K te M1 E M2 (.dat d)) (hk1 : M1[k]? = some (.lst ds)) (hk : M2[k]? = some (.lst ds)) (hl : ds.length < 16777216)
    (kk : Nxt K B (M2.set k (.lst (ds ++ [d]))) E D.nx) : tDrop (tBM K "list" rAppend ta (tCons te tNil)) D σ H :=
  ho B F As σ H S _ fun v F1 As1 H1 S1 e1 p1 r1 => by
    obtain ⟨a, hA, rfl⟩ := r1
    obtain ⟨_, o, ho1, vs1, rfl, pa1⟩ := S1.cell k a _ hA hk1 (by intro z; cases z)
    refine ⟨.inl ⟨rfl, _, SqL.of ho1⟩, h B F1 As1 σ H1 S1 _ fun v2 F2 As2 H2 S2 e2 p2 r2 => ?_⟩
    have hA := prefix_get p2 hA
    obtain ⟨_, o, ho, vs, rfl, pa⟩ := S2.cell k a _ hA hk (by intro z; cases z)
    exact ⟨a, vs, v2, rfl, rfl, ho, szlt (by rw [← pa.1]; exact hl), kk _ _ _ _ (S2.chg hA hk (by intro z; cases z) ⟨_, rfl, pa.append (P2.single r2)⟩)⟩
theorem q_app {k : Nat} {ds : List DL.D} (S : Sta K B F As M σ E H) (ho : EvD K ta M E M1 (.cel k)) (h : EvD K te M1 E M2 (.dat d)) (hk1 : M1[k]? = some (.lst ds)) (hk : M2[k]? = some (.lst ds)) (hl : ds.length < 16777216)
    (kk : Nxt K B (M2.set k (.lst (ds ++ [d]))) E (u D)) : tSeq (tDrop (tBM K "list" rAppend ta (tCons te tNil))) u D σ H := s_app (D := { D with nx := u D }) S ho h hk1 hk hl kk
theorem s_appI {k : Nat} {ns : List Int} {e : Int} (S : Sta K B F As M σ E H) (ho : EvD K ta M E M1 (.cel k)) (h : EvD K te M1 E M2 (rint e)) (hk1 : M1[k]? = some (.lst (ns.map DL.D.int))) (hk : M2[k]? = some (.lst (ns.map DL.D.int))) (hl : ns.length < 16777216)
    (kk : Nxt K B (M2.set k (.lst ((ns ++ [e]).map DL.D.int))) E D.nx) : tDrop (tBM K "list" rAppend ta (tCons te tNil)) D σ H :=
  s_app S ho h hk1 hk (by rw [List.length_map]; exact hl) (by rw [List.map_append] at kk; exact kk)
theorem q_appI {k : Nat} {ns : List Int} {e : Int} (S : Sta K B F As M σ E H) (ho : EvD K ta M E M1 (.cel k)) (h : EvD K te M1 E M2 (rint e)) (hk1 : M1[k]? = some (.lst (ns.map DL.D.int))) (hk : M2[k]? = some (.lst (ns.map DL.D.int))) (hl : ns.length < 16777216)
    (kk : Nxt K B (M2.set k (.lst ((ns ++ [e]).map DL.D.int))) E (u D)) : tSeq (tDrop (tBM K "list" rAppend ta (tCons te tNil))) u D σ H := s_appI (D := { D with nx := u D }) S ho h hk1 hk hl kk
theorem s_drop (S : Sta K B F As M σ E H) (h : EvD K te M E M' r) (k : Nxt K B M' E D.nx) : tDrop te D σ H := h B F As σ H S _ fun v F1 As1 H1 S1 _ _ _ => k _ _ _ _ S1
theorem q_drop (S : Sta K B F As M σ E H) (h : EvD K te M E M' r) (k : Nxt K B M' E (u D)) : tSeq (tDrop te) u D σ H := s_drop (D := { D with nx := u D }) S h k
theorem s_if {c : TT} (S : Sta K B F As M σ E H) (h : EvT K c M E M' b) (h1 : b = true → Nxt K B M' E (t1 D)) (h2 : b = false → Nxt K B M' E (t2 D)) : tIfS c t1 t2 D σ H :=
  h B F As σ H S _ fun F1 As1 H1 S1 _ _ => by
    cases b with
    | true => exact h1 rfl _ _ _ _ S1
    | false => exact h2 rfl _ _ _ _ S1
theorem q_if {c : TT} (S : Sta K B F As M σ E H) (h : EvT K c M E M' b) (h1 : b = true → Nxt K B M' E (t1 { D with nx := u D })) (h2 : b = false → Nxt K B M' E (t2 { D with nx := u D })) : tSeq (tIfS c t1 t2) u D σ H := s_if (D := { D with nx := u D }) S h h1 h2
theorem s_next (S : Sta K B F As M σ E H) (k : Nxt K B M E D.nx) : tNext D σ H := k _ _ _ _ S
theorem q_next (k : u D σ H) : tSeq tNext u D σ H := k
theorem s_ret (S : Sta K B F As M σ E H) (h : EvD K te M E M' r) (k : ∀ v F' As' σ' H', Sta K B F' As' M' σ' E H' → RV K F' As' r v → D.rt v H') : tRet te D σ H :=
  h B F As σ H S _ fun v F1 As1 H1 S1 _ _ rv => k v F1 As1 _ H1 S1 rv
theorem q_ret (S : Sta K B F As M σ E H) (h : EvD K te M E M' r) (k : ∀ v F' As' σ' H', Sta K B F' As' M' σ' E H' → RV K F' As' r v → D.rt v H') : tSeq (tRet te) u D σ H := s_ret (D := { D with nx := u D }) S h k
/-! ### loops: P, a word of the turn, the cells and the slots -/
def NxP (K : PySem.W.Frag) (B : Base) (P : List MC → List (Option Rv) → Prop) : St → Hp → Prop := fun σ H => ∃ F As M E, Sta K B F As M σ E H ∧ P M E
theorem s_end {P : List MC → List (Option Rv) → Prop} (S : Sta K B F As M σ E H) (hP : P M E') (hE : Ele E' E) : NxP K B P σ H := ⟨F, As, M, E', S.weak hE, hP⟩
theorem s_forR1 {t : TA} {j : Nat} {n : Int} (S : Sta K B F As M σ E H) (ha : EvA K t M E M1 [rint n]) (hn : -16777216 ≤ n ∧ n ≤ 16777216) (P : Nat → List MC → List (Option Rv) → Prop) (h0 : P 0 M1 E)
    (hb : ∀ (i : Nat) M E, (i : Int) < n → P i M E → Nxt K B M (E.set j (some (rint (i : Int)))) (u { D with nx := NxP K B (P (i + 1)), ct := NxP K B (P (i + 1)), bk := D.nx }))
    (hd : ∀ M E, P n.toNat M E → Nxt K B M E D.nx) : tFor (iRng1 t) (gName j) u D σ H :=
  ha B F As σ H S _ fun vs F1 As1 H1 S1 _ _ r1 => by
    obtain ⟨w, rfl, hw⟩ := r1.one
    cases R.int_inv hw
    refine ⟨n, rfl, by omega, by omega, for_range (lo := 0) (n := n.toNat) (fun i => NxP K B (P i)) ⟨F1, As1, M1, E, S1, h0⟩ (fun i σ' H' hi ⟨F2, As2, M2, E2, S2, hP⟩ => ?_) (fun σ' H' ⟨F2, As2, M2, E2, S2, hP⟩ => hd M2 E2 hP _ _ _ _ S2)⟩
    have e0 : (0 : Int) + (i : Int) = (i : Int) := Int.zero_add _
    rw [e0]
    exact hb i M2 E2 (by omega) hP _ _ _ _ (S2.set (r := rint (i : Int)) (.int _))
theorem q_forR1 {t : TA} {j : Nat} {n : Int} {u' : TS} (S : Sta K B F As M σ E H) (ha : EvA K t M E M1 [rint n]) (hn : -16777216 ≤ n ∧ n ≤ 16777216) (P : Nat → List MC → List (Option Rv) → Prop) (h0 : P 0 M1 E)
    (hb : ∀ (i : Nat) M E, (i : Int) < n → P i M E → Nxt K B M (E.set j (some (rint (i : Int)))) (u { D with nx := NxP K B (P (i + 1)), ct := NxP K B (P (i + 1)), bk := u' D }))
    (hd : ∀ M E, P n.toNat M E → Nxt K B M E (u' D)) : tSeq (tFor (iRng1 t) (gName j) u) u' D σ H := s_forR1 (D := { D with nx := u' D }) S ha hn P h0 hb hd
theorem s_forR2 {t : TA} {j : Nat} {a n : Int} (S : Sta K B F As M σ E H) (ha : EvA K t M E M1 [rint a, rint n]) (hn : -16777216 ≤ n ∧ n ≤ 16777216 ∧ -16777216 ≤ a ∧ a ≤ 16777216) (P : Nat → List MC → List (Option Rv) → Prop) (h0 : P 0 M1 E)
    (hb : ∀ (i : Nat) M E, a + (i : Int) < n → P i M E → Nxt K B M (E.set j (some (rint (a + (i : Int))))) (u { D with nx := NxP K B (P (i + 1)), ct := NxP K B (P (i + 1)), bk := D.nx }))
    (hd : ∀ M E, P (n - a).toNat M E → Nxt K B M E D.nx) : tFor (iRng2 t) (gName j) u D σ H :=
  ha B F As σ H S _ fun vs F1 As1 H1 S1 _ _ r1 => by
    obtain ⟨w, w2, rfl, hw, hw2⟩ := r1.two
    cases R.int_inv hw; cases R.int_inv hw2
    exact ⟨a, n, rfl, ⟨by omega, by omega, by omega, by omega⟩, for_range (lo := a) (n := (n - a).toNat) (fun i => NxP K B (P i)) ⟨F1, As1, M1, E, S1, h0⟩ (fun i σ' H' hi ⟨F2, As2, M2, E2, S2, hP⟩ => hb i M2 E2 (by omega) hP _ _ _ _ (S2.set (r := rint (a + (i : Int))) (.int _))) (fun σ' H' ⟨F2, As2, M2, E2, S2, hP⟩ => hd M2 E2 hP _ _ _ _ S2)⟩
theorem q_forR2 {t : TA} {j : Nat} {a n : Int} {u' : TS} (S : Sta K B F As M σ E H) (ha : EvA K t M E M1 [rint a, rint n]) (hn : -16777216 ≤ n ∧ n ≤ 16777216 ∧ -16777216 ≤ a ∧ a ≤ 16777216) (P : Nat → List MC → List (Option Rv) → Prop) (h0 : P 0 M1 E)
    (hb : ∀ (i : Nat) M E, a + (i : Int) < n → P i M E → Nxt K B M (E.set j (some (rint (a + (i : Int))))) (u { D with nx := NxP K B (P (i + 1)), ct := NxP K B (P (i + 1)), bk := u' D }))
    (hd : ∀ M E, P (n - a).toNat M E → Nxt K B M E (u' D)) : tSeq (tFor (iRng2 t) (gName j) u) u' D σ H := s_forR2 (D := { D with nx := u' D }) S ha hn P h0 hb hd
/-- the base of a loop that reads what was frozen at its start -/
def Base.up (B : Base) (F : Hp) : Base := { B with F0 := F }
theorem Sta.toUp (S : Sta K B F As M σ E H) : Sta K (B.up F) F As M σ E H := { S with bF := Ex.refl F, bN := fun a o h h0 => h0, bH := S.bH, bA := S.bA, bK := S.bK, pA := S.pA }
theorem Sta.ofUp (S : Sta K B F1 As1 M1 σ E H1) (S' : Sta K (B.up F1) F As M σ' E' H) : Sta K B F As M σ' E' H := { S' with bF := S.bF.trans S'.bF, bN := fun a o h h0 => S'.bN a o h (S.bN a o h h0), bH := S'.bH, bA := S'.bA, bK := S'.bK, pA := S'.pA }
/-- what holds of the one base holds of the other -/
abbrev Cv (K : PySem.W.Frag) (B' B : Base) : Prop := ∀ {F As M σ E H}, Sta K B' F As M σ E H → Sta K B F As M σ E H
/-- for x in xs, xs data: g stores the item -/
theorem s_forG {tl : TE} {g : TG} {st : List (Option Rv) → DL.D → List (Option Rv) → Prop} {ds : List DL.D} (S : Sta K B F As M σ E H) (ha : EvD K tl M E M1 (.dat (.lst ds)))
    (hg : ∀ {B F As M σ E H d v} {Q : St → Hp → Prop}, d ∈ ds → Sta K B F As M σ E H → R K F d v → (∀ σ' E', st E d E' → Sta K B F As M σ' E' H → Q σ' H) → g v σ H Q)
    (P : Nat → List MC → List (Option Rv) → Prop) (h0 : P 0 M1 E)
    (hb : ∀ (B' : Base), Cv K B' B → ∀ (i : Nat) (d : DL.D) M E E', ds[i]? = some d → P i M E → st E d E' → Nxt K B' M E' (u { D with nx := NxP K B' (P (i + 1)), ct := NxP K B' (P (i + 1)), bk := D.nx }))
    (hd : ∀ M E, P ds.length M E → Nxt K B M E D.nx) : tFor (iList K tl) g u D σ H :=
  ha B F As σ H S _ fun vs F1 As1 H1 S1 _ _ r1 => by
    obtain ⟨a, ws, rfl, hA, pa⟩ := R.lst_inv r1
    refine ⟨a, rfl, ⟨ws, SqL.of (S1.ex _ _ hA)⟩, for_list (K := K) (a := a) (xs := ws) (fun i => NxP K (B.up F1) (P i)) ⟨F1, As1, M1, E, S1.toUp, h0⟩ (fun i σ' H' _ ⟨F2, As2, M2, E2, S2, hP⟩ => SqL.of (S2.ex _ _ (S2.bF _ _ hA))) (fun i x σ' H' hi ⟨F2, As2, M2, E2, S2, hP⟩ => ?_) (fun σ' H' ⟨F2, As2, M2, E2, S2, hP⟩ => hd M2 E2 (by rw [pa.1]; exact hP) _ _ _ _ (S1.ofUp S2))⟩
    obtain ⟨d, hd, rd⟩ := pa.flip.get hi
    exact hg (List.mem_of_getElem? hd) S2 (R.mono rd S2.bF) fun σ3 E3 hst S3 => hb (B.up F1) (fun S => S1.ofUp S) i d M2 E2 E3 hd hP hst _ _ _ _ S3
theorem s_forL {tl : TE} {j : Nat} {ds : List DL.D} (S : Sta K B F As M σ E H) (ha : EvD K tl M E M1 (.dat (.lst ds))) (P : Nat → List MC → List (Option Rv) → Prop) (h0 : P 0 M1 E)
    (hb : ∀ (B' : Base), Cv K B' B → ∀ (i : Nat) (d : DL.D) M E, ds[i]? = some d → P i M E → Nxt K B' M (E.set j (some (.dat d))) (u { D with nx := NxP K B' (P (i + 1)), ct := NxP K B' (P (i + 1)), bk := D.nx }))
    (hd : ∀ M E, P ds.length M E → Nxt K B M E D.nx) : tFor (iList K tl) (gName j) u D σ H :=
  s_forG (st := fun E d E' => E' = E.set j (some (.dat d))) S ha (fun {B F As M σ E H d v Q} hm S rd k => k _ _ rfl (S.set (r := .dat d) rd)) P h0 (fun B' cv i d M E E' h1 h2 h3 => h3 ▸ hb B' cv i d M E h1 h2) hd
theorem q_forL {tl : TE} {j : Nat} {ds : List DL.D} {u' : TS} (S : Sta K B F As M σ E H) (ha : EvD K tl M E M1 (.dat (.lst ds))) (P : Nat → List MC → List (Option Rv) → Prop) (h0 : P 0 M1 E)
    (hb : ∀ (B' : Base), Cv K B' B → ∀ (i : Nat) (d : DL.D) M E, ds[i]? = some d → P i M E → Nxt K B' M (E.set j (some (.dat d))) (u { D with nx := NxP K B' (P (i + 1)), ct := NxP K B' (P (i + 1)), bk := u' D }))
    (hd : ∀ M E, P ds.length M E → Nxt K B M E (u' D)) : tSeq (tFor (iList K tl) (gName j) u) u' D σ H := s_forL (D := { D with nx := u' D }) S ha P h0 hb hd
/-! ### a cell frozen -/
def sub1 (k : Nat) (d : DL.D) : Option Rv → Option Rv
  | some (.cel j) => if j = k then some (.dat d) else some (.cel j)
  | x => x
def MC.toD : MC → Option DL.D
  | .lst ds => some (.lst ds)
  | .dct kvs => some (.dct kvs)
  | .ins C fs => some (.ins C fs)
  | .gone => none
theorem Sta.freeze {k : Nat} {mc : MC} {a : Addr} (S : Sta K B F As M σ E H) (hB : ∀ a, B.P a → a ∈ B.A0) (ha : As[k]? = some a) (hk : M[k]? = some mc) (hd : mc.toD = some d) (h0 : B.A0.length ≤ k) :
    ∃ F', Sta K B F' As (M.set k .gone) σ (E.map (sub1 k d)) H ∧ R K F' d (.ref a) := by
  have hg : mc ≠ .gone := by rintro rfl; cases hd
  obtain ⟨g1, o, g2, g3⟩ := S.cell k a mc ha hk hg
  have hP : B.H0 a = none := by
    rcases S.bA a (List.mem_of_getElem? ha) with q | q
    · exfalso
      have hm := hB a q
      obtain ⟨j, hj, e⟩ := List.mem_iff_getElem.mp hm
      have e2 : As[j]? = some a := prefix_get S.pA (by rw [List.getElem?_eq_getElem hj, e])
      have := S.uniq ha e2
      omega
    · exact q
  obtain ⟨S2, e2⟩ := S.frz ha hk hg g2 hP
  have rd : R K (upd F a o) d (.ref a) := by
    cases mc with
    | lst ds => cases hd; obtain ⟨xs, rfl, p⟩ := g3; exact R.lst' upd_same (p.imp fun _ _ z => z.mono e2)
    | dct kvs => cases hd; obtain ⟨xs, rfl, p⟩ := g3; exact R.dct' upd_same (p.imp fun _ _ z => ⟨z.1, z.2.mono e2⟩)
    | ins C fs => cases hd; obtain ⟨dx, xs, rfl, p⟩ := g3; exact R.ins' upd_same (p.imp fun _ _ z => ⟨z.1, z.2.mono e2⟩)
    | gone => cases hd
  refine ⟨upd F a o, { S2 with slots := ⟨by rw [List.length_map]; exact S2.slots.1, fun i r h => ?_⟩ }, rd⟩
  rw [List.getElem?_map] at h
  cases c : E[i]? with
  | none => rw [c] at h; cases h
  | some x =>
    rw [c] at h
    have h : sub1 k d x = some r := Option.some.inj h
    cases x with
    | none => cases h
    | some r0 =>
      obtain ⟨v, hv, rv⟩ := S2.slots.2 i r0 c
      refine ⟨v, hv, ?_⟩
      cases r0 with
      | dat d0 => cases h; exact rv
      | cel j =>
        have h : (if j = k then some (Rv.dat d) else some (Rv.cel j)) = some r := h
        by_cases e : j = k
        · subst e
          rw [if_pos rfl] at h
          cases h
          obtain ⟨a', ha', rfl⟩ := rv
          rw [ha] at ha'; cases ha'
          exact rd
        · rw [if_neg e] at h; cases h; exact rv
theorem s_frz {k : Nat} {mc : MC} {t : TS} (S : Sta K B F As M σ E H) (hB : ∀ a, B.P a → a ∈ B.A0) (hk : M[k]? = some mc) (hd : mc.toD = some d) (h0 : B.A0.length ≤ k) (kk : Nxt K B (M.set k .gone) (E.map (sub1 k d)) (t D)) : t D σ H := by
  have hl : k < As.length := by rw [S.len]; exact (List.getElem?_eq_some_iff.mp hk).1
  obtain ⟨F', S2, _⟩ := S.freeze hB (List.getElem?_eq_getElem hl) hk hd h0
  exact kk _ _ _ _ S2
/-- return of a cell of the def's own, frozen -/
theorem s_retF {k : Nat} {mc : MC} (S : Sta K B F As M σ E H) (hB : ∀ a, B.P a → a ∈ B.A0) (h : EvD K te M E M' (.cel k)) (hk : M'[k]? = some mc) (hd : mc.toD = some d) (h0 : B.A0.length ≤ k)
    (kk : ∀ v F' As' σ' E' H', Sta K B F' As' (M'.set k .gone) σ' E' H' → R K F' d v → D.rt v H') : tRet te D σ H :=
  h B F As σ H S _ fun v F1 As1 H1 S1 _ _ rv => by
    obtain ⟨a, ha, rfl⟩ := rv
    obtain ⟨F', S2, rd⟩ := S1.freeze hB ha hk hd h0
    exact kk _ _ _ _ _ _ S2 rd
end
end DL
set_option Elab.async false
set_option linter.all false
set_option maxRecDepth 100000
set_option maxHeartbeats 4000000
/-! DL, seventh part: rules that the hand layer lacks: list(d.keys()), min and max of a list of data; equal data. -/
namespace DL
open PySem L2 PySem.Spec PyProof.Rows
open PySem.W (AlikeAll minD readsAll_len iter_listW cmpIn_lt moved_old dataLt keyToks keyToksAll argBest_fold)
open Evl (Ex)
section
variable {X : Cx} {e : Expr} {te : TE} {p apos cpos pos : Pos}
/-- the keys of a dict as a new list -/
def kKeys : V → Hp → VK → Prop := fun v Hh Qw => ∃ (dd : Addr) (ws : List (Key × V)), v = .ref dd ∧ Hh dd = some (.dK ws) ∧ ∀ q, Hh q = none → Qw (.ref q) (upd Hh q (.lst (ws.map fun z => kV z.1)))
def tListKeys (te : TE) : TE := fun σ Hh Qw => te σ Hh fun v H1 => kKeys v H1 Qw
theorem pe_listKeys (hcalm : X.calm = true) (hde : PE X e te) (hgl : Gl X "list") (hmg : X.mg "list" = none) (hbt : bootBuiltins "list" = some (.type "list")) (hba : attributeBase e "keys" X.env (eval e X.env) = eval e X.env := by rfl) (hli : (apos.endLine == cpos.line) = true := by rfl)
    (hst : starEach [.Call (.Attribute e "keys" apos) [] [] cpos] X.env = (false, eval (.Call (.Attribute e "keys" apos) [] [] cpos) X.env) :: starEach [] X.env := by rfl) :
    PE X (.Call (.Name "list" p) [.Call (.Attribute e "keys" apos) [] [] cpos] [] pos) (tListKeys te) := by
  refine ⟨fun pns sh sl Hh Qw Iv hw => ?_⟩
  refine wpAny_Call_Name_kw (ld_blt Iv hgl hmg hbt ?_)
  refine callWith_type1 ?_ hst rfl
  rw [hst]
  show wpAny _ _ (spliced ((false, eval (.Call (.Attribute e "keys" apos) [] [] cpos) X.env) :: backTo pos (starEach [] X.env))) _ _ sh
  refine Calls.spliced_cons ?_
  refine wpAny_Call_method (T := "dict") (id := "dict.keys") hba rfl hli F.plainAttrs_dict F.slot_dict_keys F.type_dict_keys (thn (hde.run pns sh sl Hh _ Iv hw) fun uu s1 ⟨vv, H1, I1, rv, dd, ws, ev, hd, qq⟩ => ?_)
  subst ev
  obtain rfl : uu = Value.ref dd := rv
  obtain ⟨hz, hlo, vs, kvw, hdo⟩ := I1.hok dd _ hd
  obtain ⟨ep, hat⟩ := hdo.dictAt
  have hlen : ws.length = vs.length := Paired.length kvw
  have I2 : Inv X pns sl H1 { s1 with heap := s1.heap.push { cls := .type "dict_keys", data := .fields #[.ref dd] } } := I1.kept (t' := s1.toks) fun b ob z => Heap.get?_push_of_some _ z
  refine ⟨hdo.typeIs, hdo.mapOf.noDict, ?_⟩
  show wpAny _ _ (callWith cpos (.builtin "dict.keys") [.ref dd] [] []) _ X.xe s1
  refine method_meetsIn F.slot_dict_keys F.entry_dict_keys rfl (PySem.evalArgs_none ⟨rfl, hdo.typeIs, F.args_dict_keys_1 _, _, PySem.W.kdl_meets_keys (mixKind X.prog X.w) dd hlo, ⟨vs, hdo⟩, ?_⟩)
  refine Calls.spliced_nil ?_
  refine PySem.W.kdl_call (PySem.W.kdl_keys (knd := mixKind X.prog X.w) (kvs := vs) (ep := ep) (d := dd)) (I1.ok.hd hcalm) ⟨⟨_, Heap.get?_push_size _ rfl, rfl, rfl⟩, hat.push _⟩ (by rw [← hlen]; exact hz) fun hh tk acc c hkeep hS hacc => ?_
  have new : H1 (s1.heap.push { cls := .type "dict_keys", data := .fields #[.ref dd] }).objs.size = none := I2.hok.fresh (Nat.le_refl _)
  refine ⟨.ref _, _, I2.laid (t' := tk) hkeep (Nat.le_refl _) (o := .lst (ws.map fun z => kV z.1)) ⟨by rw [List.length_map]; exact hz, acc.toList, c, ?_, ?_⟩, rfl, qq _ new⟩
  · have hal : acc.toList.length = acc.size := by simp
    refine vals_of_at (by rw [List.length_map, hal, hacc.1, hlen]) fun j y w2 g1 g2 => ?_
    obtain ⟨kk, y2, hky, his⟩ := hacc.2 j w2 (by rw [← Array.getElem?_toList]; exact g2)
    have g3 : (ws.map (·.1))[j]? = some kk := by rw [KV.keys kvw, List.getElem?_map, hky]; rfl
    rw [List.getElem?_map] at g1 g3
    cases g4 : ws[j]? with
    | none => rw [g4] at g3; cases g3
    | some z =>
      rw [g4] at g1 g3
      have g5 : z.1 = kk := Option.some.inj g3
      have g6 : kV z.1 = y := Option.some.inj g1
      rw [← g6, g5]
      exact keyIs_rel his
  · rw [Array.toArray_toList]; exact hS
/-- min of a list of data that can be compared with one another -/
def rMinD (K : PySem.W.Frag) : List V → Hp → VK → Prop := fun vs Hh Qw => ∃ (a : Addr) (xs : List V) (d : PyData) (ds : List PyData), vs = [.ref a] ∧ SqL K Hh a xs ∧ DpAll K Hh xs (d :: ds) ∧ AlikeAll (d :: ds) ∧ PyData.depthAll (d :: ds) ≤ 60 ∧
  ∀ (i : Nat) (y : V), xs[i]? = some y → (d :: ds).getD i .none = minD d ds → Qw y Hh
theorem cr_minP (hcalm : X.calm = true) (hun : X.A.units + 64 < cLine) : CallR X (.builtin "min") (rMinD X.K) := by
  intro pns sh sl Hh vs us Qw Iv rr hw
  obtain ⟨a, xs, d, ds, rfl, hsq, hdp, hal, hdep, qq⟩ := hw
  obtain ⟨its, rvs, hpl, _⟩ := Iv.list hsq
  rw [Vals.ref1 rr]
  obtain ⟨as, hra⟩ := Dp.readsAll Iv _ _ _ hdp rvs
  have hra2 : ReadsAll sh.heap its.toArray.toList (d :: ds) as := hra
  have hsz : its.toArray.size = ds.length + 1 := readsAll_len hra2
  refine call_min_walkH (iter_listW (A := X.A.in1) (Iv.ok.hd hcalm) hpl.isList fun s₂ es W st hfp hwr hk => ?_)
  refine ⟨_, _, _, _, _, _, _, sh.heap, _, rfl, W, st, hfp, by omega, hwr, hk, cmpIn_lt (A := X.A.in1) hra2 hal (by show X.A.units + 1 + _ < _; omega), fun v s' hv hm => ?_⟩
  obtain ⟨h', tk, rfl, hk'⟩ := moved_old es rfl hm
  have e1 : its.toArray.size - 1 = ds.length := by omega
  have e2 := (argBest_fold dataLt PyData.none d ds ds.length (Nat.le_refl _)).2
  rw [List.take_length] at e2
  rw [e1] at hv
  have hv2 : its[argBest (fun i j => dataLt ((d :: ds).getD i .none) ((d :: ds).getD j .none)) ds.length]? = some v := by simpa using hv
  have hx : ∃ y, xs[argBest (fun i j => dataLt ((d :: ds).getD i .none) ((d :: ds).getD j .none)) ds.length]? = some y ∧ RelV y v := by
    cases g : xs[argBest (fun i j => dataLt ((d :: ds).getD i .none) ((d :: ds).getD j .none)) ds.length]? with
    | none => rw [rvs.none_of g] at hv2; cases hv2
    | some y =>
      obtain ⟨u2, g2, g3⟩ := rvs.get g
      rw [g2] at hv2; cases hv2
      exact ⟨y, rfl, g3⟩
  obtain ⟨y, g1, g2⟩ := hx
  exact ⟨y, Hh, Iv.kept hk', g2, qq _ y g1 (by unfold minD; rw [← e2])⟩
end
/-! ### data as the library's data -/
inductive PyOf : D → PyData → Prop where
  | non : PyOf .non .none
  | bl (b : Bool) : PyOf (.bl b) (.bool b)
  | int (i : Int) : PyOf (.int i) (.int i)
  | str (s : Str) : PyOf (.str s) (.str s)
  | lst {ds : List D} {es : List PyData} (hl : ds.length = es.length) (h : ∀ (i : Nat) (d : D) (e : PyData), ds[i]? = some d → es[i]? = some e → PyOf d e) : PyOf (.lst ds) (.list es)
  | tup {ds : List D} {es : List PyData} (hl : ds.length = es.length) (h : ∀ (i : Nat) (d : D) (e : PyData), ds[i]? = some d → es[i]? = some e → PyOf d e) : PyOf (.tup ds) (.tuple es)
section
variable {K : PySem.W.Frag} {F H : Hp}
theorem dpAll_of : ∀ {vs : List V} {es : List PyData}, vs.length = es.length → (∀ (i : Nat) (v : V) (e : PyData), vs[i]? = some v → es[i]? = some e → Dp K H v e) → DpAll K H vs es
  | [], [], _, _ => .nil
  | v :: vs, e :: es, hl, h => .cons (h 0 v e rfl rfl) (dpAll_of (by simpa using hl) fun i v' e' a b => h (i + 1) v' e' (by simpa using a) (by simpa using b))
  | [], _ :: _, hl, _ => by simp at hl
  | _ :: _, [], hl, _ => by simp at hl
theorem PyOf.dp {d : D} {e : PyData} (h : PyOf d e) (ex : Ex F H) : ∀ {v : V}, R K F d v → Dp K H v e := by
  induction h with
  | non => intro v r; cases r; exact .non
  | bl b => intro v r; cases r; exact .bl b
  | int i => intro v r; cases r; exact .int i
  | str s => intro v r; cases r; exact .str s
  | lst hl h ih =>
    intro v r
    obtain ⟨a, xs, rfl, ha, pa⟩ := R.lst_inv r
    refine .lst (SqL.of (ex _ _ ha)) (dpAll_of (by rw [← pa.1, hl]) fun i v e a b => ?_)
    obtain ⟨d, hd, rd⟩ := pa.flip.get a
    exact ih i d e hd b rd
  | tup hl h ih =>
    intro v r
    obtain ⟨a, xs, rfl, ha, pa⟩ := R.tup_inv r
    refine .tup (SqT.of (ex _ _ ha)) (dpAll_of (by rw [← pa.1, hl]) fun i v e a b => ?_)
    obtain ⟨d, hd, rd⟩ := pa.flip.get a
    exact ih i d e hd b rd
theorem PyOf.ints (ns : List Int) : PyOf (.lst (ns.map D.int)) (.list (ns.map PyData.int)) := by
  refine .lst (by simp) fun i d e a b => ?_
  rw [List.getElem?_map] at a b
  cases c : ns[i]? with
  | none => rw [c] at a; cases a
  | some n => rw [c] at a b; cases a; cases b; exact .int n
end
section
variable {K : PySem.W.Frag} {M M1 M2 : List MC} {E : List (Option Rv)} {x y : Rv} {ta : TE}
theorem shaped_eqv {e : PyData} (h : SeqAt.shaped e = true) : PyData.eqv e e = true := SeqAt.eqv_refl e (SeqAt.canLay_of_shaped h)
/-- a == a, a != a -/
theorem od_eqS1 {d : D} {e : PyData} (h : PyOf d e) (hs : SeqAt.shaped e = true) : OpD K (rEqD K) M (.dat d) (.dat d) M (rbl true) := OpD.pure fun B F H As σ E v w S r1 r2 Q q =>
  ⟨e, e, h.dp S.ex r1, h.dp S.ex r2, hs, hs, by rw [shaped_eqv hs]; exact q _ (.bl _)⟩
theorem od_neS1 {d : D} {e : PyData} (h : PyOf d e) (hs : SeqAt.shaped e = true) : OpD K (rNeD K) M (.dat d) (.dat d) M (rbl false) := OpD.pure fun B F H As σ E v w S r1 r2 Q q =>
  ⟨e, e, h.dp S.ex r1, h.dp S.ex r2, hs, hs, by rw [shaped_eqv hs]; exact q _ (.bl _)⟩
theorem od_neL {ns ms : List Int} (h : ns = ms) : OpD K (rNeD K) M (rints ns) (rints ms) M (rbl false) := h ▸ od_neS1 (PyOf.ints ns) (PySem.W.ke_shaped_ints ns)
theorem od_eqL {ns ms : List Int} (h : ns = ms) : OpD K (rEqD K) M (rints ns) (rints ms) M (rbl true) := h ▸ od_eqS1 (PyOf.ints ns) (PySem.W.ke_shaped_ints ns)
theorem ev_listKeys {kvs : List (Key × D)} {ks : List Int} (ha : EvD K ta M E M1 x) (h : IsDct M1 x kvs) (hk : kvs.map (·.1) = ks.map Sum.inl) : EvD K (tListKeys ta) M E M1 (rints ks) := fun B F As σ H S Q q =>
  ha B F As σ H S _ fun v F1 As1 H1 S1 e1 p1 r1 => by
    obtain ⟨a, ws, rfl, hA, pa⟩ := h.view S1 r1
    refine ⟨a, ws, rfl, hA, fun p hp => ?_⟩
    have e : (ws.map fun z => kV z.1) = ks.map V.int := by
      have h2 : ws.map (·.1) = ks.map Sum.inl := pa.keys ▸ hk
      have h3 : (ws.map fun z => kV z.1) = (ws.map (·.1)).map kV := by rw [List.map_map]; rfl
      rw [h3, h2, List.map_map]; rfl
    rw [e]
    exact ev_lstNew S1 hp (P2.ofInts _) fun u F4 As4 H4 S4 e4 p4 r4 => q u F4 As4 H4 S4 (e1.trans e4) (p1.trans p4) r4
/-! ### min of pairs -/
abbrev pairD (p : Int × Int) : D := .tup [.int p.1, .int p.2]
abbrev pairP (p : Int × Int) : PyData := .tuple [.int p.1, .int p.2]
theorem PyOf.pair (p : Int × Int) : PyOf (pairD p) (pairP p) := .tup rfl fun i d e a b => by
  match i, a, b with
  | 0, a, b => cases a; cases b; exact .int _
  | 1, a, b => cases a; cases b; exact .int _
  | i + 2, a, b => simp at a
theorem lt_pair {p q : Int × Int} (h : p.1 < q.1) : dataLt (pairP q) (pairP p) = false := by
  have h1 : ¬ q.1 < p.1 := by omega
  show PyProof.Rows.lexLt itemOrd (keyToks (pairP q)) (keyToks (pairP p)) = false
  simp [keyToks, keyToksAll, PyProof.Rows.lexLt, itemOrd, itemLt, h, h1]
theorem minD_head {p : Int × Int} : ∀ {ps : List (Int × Int)}, (∀ q ∈ ps, p.1 < q.1) → minD (pairP p) (ps.map pairP) = pairP p
  | [], _ => rfl
  | q :: ps, h => by
    unfold minD
    rw [List.map_cons, List.foldl_cons, lt_pair (h q List.mem_cons_self)]
    exact minD_head (ps := ps) fun r hr => h r (List.mem_cons_of_mem _ hr)
theorem alike_pairs (ps : List (Int × Int)) : AlikeAll (ps.map pairP) := by
  refine ⟨fun x hx y hy => ?_, fun x hx => ?_⟩
  · obtain ⟨p, _, rfl⟩ := List.mem_map.mp hx
    obtain ⟨q, _, rfl⟩ := List.mem_map.mp hy
    rfl
  · obtain ⟨p, _, rfl⟩ := List.mem_map.mp hx
    intro z; cases z
theorem depth_pairs : ∀ ps : List (Int × Int), PyData.depthAll (ps.map pairP) ≤ 60
  | [] => by decide
  | p :: ps => by
    have h := depth_pairs ps
    show max _ _ ≤ 60
    have h2 : PyData.depth (pairP p) ≤ 60 := by
      show PyData.depth (.tuple [.int p.1, .int p.2]) ≤ 60
      simp [PyData.depth, PyData.depthAll]
    omega
theorem cd_minP {p : Int × Int} {ps : List (Int × Int)} (hx : IsLst M x ((p :: ps).map pairD)) (h : ∀ q ∈ ps, p.1 < q.1) : CaD K (rMinD K) M [x] M (.dat (pairD p)) := CaD.pure fun B F H As σ E vs S r1 Q q => by
  obtain ⟨v, rfl, hv⟩ := r1.one
  obtain ⟨a, ws, rfl, ha, pa⟩ := hx.view S hv
  refine ⟨a, ws, pairP p, ps.map pairP, rfl, SqL.of ha, ?_, alike_pairs (p :: ps), depth_pairs (p :: ps), fun i y hy hi => ?_⟩
  · refine dpAll_of (by rw [← pa.1]; simp) fun i v e e1 e2 => ?_
    obtain ⟨d, hd, rd⟩ := pa.flip.get e1
    have e2 : ((p :: ps).map pairP)[i]? = some e := e2
    rw [List.getElem?_map] at hd e2
    cases c : (p :: ps)[i]? with
    | none => rw [c] at hd; cases hd
    | some z => rw [c] at hd e2; cases hd; cases e2; exact (PyOf.pair z).dp S.ex rd
  · rw [minD_head h] at hi
    obtain ⟨d, hd, rd⟩ := pa.flip.get hy
    rw [List.getElem?_map] at hd
    cases c : (p :: ps)[i]? with
    | none => rw [c] at hd; cases hd
    | some z =>
      rw [c] at hd
      have e3 : ((p :: ps).map pairP).getD i .none = pairP z := by rw [List.getD_eq_getElem?_getD, List.getElem?_map, c]; rfl
      have e4 : pairP z = pairP p := e3.symm.trans hi
      have e5 : z = p := by
        injection e4 with e4
        injection e4 with a1 a2
        injection a2 with a2 _
        injection a1 with a1
        injection a2 with a2
        exact Prod.ext a1 a2
      cases hd
      subst e5
      exact q _ rd
end
end DL
set_option Elab.async false
set_option linter.all false
set_option maxRecDepth 100000
set_option maxHeartbeats 4000000
/-! DL, eighth part: comprehensions over lists of numbers, truth of a list, loops over a dict's keys, equality as the laws ask it. -/
namespace DL
open PySem L2
open Evl (Ex)
section
variable {K : PySem.W.Frag} {B : Base} {F F' F1 H H' H1 : Hp} {As As' As1 : List Addr} {M M0 M0' M1 M2 M3 M' M'' : List MC} {σ σ' : St} {E E' : List (Option Rv)} {ta tb te tx tl : TE} {tt : TT} {x y z r : Rv} {xs rs : List Rv} {b : Bool} {j : Nat}
theorem map_gI (xs : List Int) : (List.range xs.length).map (fun i => gI xs (i : Nat)) = xs := by
  refine List.ext_getElem? fun i => ?_
  rw [List.getElem?_map]
  by_cases h : i < xs.length
  · rw [List.getElem?_range h, List.getElem?_eq_getElem h]
    show some (xs.getD (Int.toNat (i : Int)) 0) = _
    rw [Int.toNat_natCast, List.getD_eq_getElem?_getD, List.getElem?_eq_getElem h]; rfl
  · rw [List.getElem?_eq_none (by simpa using h), List.getElem?_eq_none (by omega)]; rfl
theorem givD_list (xs : List Int) (p : Int → Bool) (f : Int → D) : givD xs.length (fun i => p (gI xs (i : Nat))) (fun i => f (gI xs (i : Nat))) = (xs.filter p).map f := by
  have h : (xs.filter p).map f = (((List.range xs.length).map (fun i => gI xs (i : Nat))).filter p).map f := by rw [map_gI]
  rw [h, List.filter_map, List.map_map]; rfl
theorem getElem?_ints {xs : List Int} {i : Nat} {d : D} (h : (xs.map D.int)[i]? = some d) : d = .int (gI xs (i : Nat)) ∧ gI xs (i : Nat) ∈ xs := by
  rw [List.getElem?_map] at h
  cases c : xs[i]? with
  | none => rw [c] at h; cases h
  | some n =>
    rw [c] at h; cases h
    have e : gI xs (i : Nat) = n := by
      unfold gI
      rw [Int.toNat_natCast, List.getD_eq_getElem?_getD, c]; rfl
    rw [e]; exact ⟨rfl, List.mem_of_getElem? c⟩
/-- [e for x in xs if t], numbers, the cells left as they are -/
theorem ev_lcLI {ns : List Int} (p : Int → Bool) (f : Int → D) (ha : EvD K tl M E M1 (rints ns)) (hn : ns.length ≤ 16777000)
    (ht : ∀ n ∈ ns, EvT K tt M1 (E.set j (some (rint n))) M1 (p n)) (he : ∀ n ∈ ns, p n = true → EvD K te M1 (E.set j (some (rint n))) M1 (.dat (f n))) :
    EvD K (tLc (iList K tl) (gName j) tt te [j]) M E M1 (.dat (.lst ((ns.filter p).map f))) := by
  have h := ev_lcL (tt := tt) (te := te) (j := j) (fun _ => M1) (fun i => p (gI ns (i : Nat))) (fun i => f (gI ns (i : Nat))) ha (by rw [List.length_map]; exact hn) rfl fun i d hd => by
    obtain ⟨rfl, hm⟩ := getElem?_ints hd
    exact LcT.tested (ht _ hm) (he _ hm)
  rw [List.length_map, givD_list] at h
  exact h
/-- [e for x in xs] -/
theorem ev_lcLA {ns : List Int} (f : Int → D) (ha : EvD K tl M E M1 (rints ns)) (hn : ns.length ≤ 16777000)
    (he : ∀ n ∈ ns, EvD K te M1 (E.set j (some (rint n))) M1 (.dat (f n))) :
    EvD K (tLc (iList K tl) (gName j) tYes te [j]) M E M1 (.dat (.lst (ns.map f))) := by
  have h := ev_lcLI (tt := tYes) (fun _ => true) f ha hn (fun _ _ => et_yes) fun n hm _ => he n hm
  rwa [List.filter_eq_self.mpr (fun _ _ => rfl)] at h
theorem ev_lcLAI {ns : List Int} (f : Int → Int) (ha : EvD K tl M E M1 (rints ns)) (hn : ns.length ≤ 16777000)
    (he : ∀ n ∈ ns, EvD K te M1 (E.set j (some (rint n))) M1 (rint (f n))) :
    EvD K (tLc (iList K tl) (gName j) tYes te [j]) M E M1 (rints (ns.map f)) := by
  have h := ev_lcLA (fun n => .int (f n)) ha hn he
  have e : (ns.map fun n => D.int (f n)) = (ns.map f).map D.int := by rw [List.map_map]; rfl
  rwa [e] at h
theorem ev_lcLII {ns : List Int} (p : Int → Bool) (f : Int → Int) (ha : EvD K tl M E M1 (rints ns)) (hn : ns.length ≤ 16777000)
    (ht : ∀ n ∈ ns, EvT K tt M1 (E.set j (some (rint n))) M1 (p n)) (he : ∀ n ∈ ns, p n = true → EvD K te M1 (E.set j (some (rint n))) M1 (rint (f n))) :
    EvD K (tLc (iList K tl) (gName j) tt te [j]) M E M1 (rints ((ns.filter p).map f)) := by
  have h := ev_lcLI p (fun n => .int (f n)) ha hn ht he
  have e : ((ns.filter p).map fun n => D.int (f n)) = ((ns.filter p).map f).map D.int := by rw [List.map_map]; rfl
  rwa [e] at h
/-- [e for i in range(n) if t] -/
theorem ev_lcR {t : TA} {n : Int} (p : Nat → Bool) (f : Nat → D) (ha : EvA K t M E M1 [rint n]) (hn : -16777000 ≤ n ∧ n ≤ 16777000)
    (ht : ∀ i : Nat, (i : Int) < n → EvT K tt M1 (E.set j (some (rint (i : Int)))) M1 (p i)) (he : ∀ i : Nat, (i : Int) < n → p i = true → EvD K te M1 (E.set j (some (rint (i : Int)))) M1 (.dat (f i))) :
    EvD K (tLc (iRng1 t) (gName j) tt te [j]) M E M1 (.dat (.lst (((List.range n.toNat).filter p).map f))) :=
  ev_lcR1 (fun _ => M1) p f ha hn rfl fun i hi => LcT.tested (ht i hi) (he i hi)
theorem ev_lcRA {t : TA} {n : Int} (f : Nat → D) (ha : EvA K t M E M1 [rint n]) (hn : -16777000 ≤ n ∧ n ≤ 16777000)
    (he : ∀ i : Nat, (i : Int) < n → EvD K te M1 (E.set j (some (rint (i : Int)))) M1 (.dat (f i))) :
    EvD K (tLc (iRng1 t) (gName j) tYes te [j]) M E M1 (.dat (.lst ((List.range n.toNat).map f))) := by
  have h := ev_lcR (tt := tYes) (fun _ => true) f ha hn (fun _ _ => et_yes) fun i hi _ => he i hi
  rwa [List.filter_eq_self.mpr (fun _ _ => rfl)] at h
theorem ev_lcRAI {t : TA} {n : Int} (f : Nat → Int) (ha : EvA K t M E M1 [rint n]) (hn : -16777000 ≤ n ∧ n ≤ 16777000)
    (he : ∀ i : Nat, (i : Int) < n → EvD K te M1 (E.set j (some (rint (i : Int)))) M1 (rint (f i))) :
    EvD K (tLc (iRng1 t) (gName j) tYes te [j]) M E M1 (rints ((List.range n.toNat).map f)) := by
  have h := ev_lcRA (fun i => .int (f i)) ha hn he
  have e : ((List.range n.toNat).map fun i => D.int (f i)) = ((List.range n.toNat).map f).map D.int := by rw [List.map_map]; rfl
  rwa [e] at h
theorem ev_lcRI {t : TA} {n : Int} (p : Nat → Bool) (f : Nat → Int) (ha : EvA K t M E M1 [rint n]) (hn : -16777000 ≤ n ∧ n ≤ 16777000)
    (ht : ∀ i : Nat, (i : Int) < n → EvT K tt M1 (E.set j (some (rint (i : Int)))) M1 (p i)) (he : ∀ i : Nat, (i : Int) < n → p i = true → EvD K te M1 (E.set j (some (rint (i : Int)))) M1 (rint (f i))) :
    EvD K (tLc (iRng1 t) (gName j) tt te [j]) M E M1 (rints (((List.range n.toNat).filter p).map f)) := by
  have h := ev_lcR p (fun i => .int (f i)) ha hn ht he
  have e : (((List.range n.toNat).filter p).map fun i => D.int (f i)) = (((List.range n.toNat).filter p).map f).map D.int := by rw [List.map_map]; rfl
  rwa [e] at h
/-- .. each turn changing the cells -/
theorem ev_lcRS {t : TA} {n : Int} (Ms : Nat → List MC) (f : Nat → Int) (ha : EvA K t M E M1 [rint n]) (hn : -16777000 ≤ n ∧ n ≤ 16777000) (h0 : Ms 0 = M1)
    (he : ∀ i : Nat, (i : Int) < n → EvD K te (Ms i) (E.set j (some (rint (i : Int)))) (Ms (i + 1)) (rint (f i))) :
    EvD K (tLc (iRng1 t) (gName j) tYes te [j]) M E (Ms n.toNat) (rints ((List.range n.toNat).map f)) := by
  have h := ev_lcR1 (tt := tYes) Ms (fun _ => true) (fun i => .int (f i)) ha hn h0 fun i hi => LcT.moved (he i hi)
  rw [givD_all] at h
  have e : ((List.range n.toNat).map fun i => D.int (f i)) = ((List.range n.toNat).map f).map D.int := by rw [List.map_map]; rfl
  rwa [e] at h
theorem ev_lcRSM {t : TA} {n : Int} (Ms : Nat → List MC) (f : Nat → Int) (ha : EvA K t M E M1 [rint n]) (hn : -16777000 ≤ n ∧ n ≤ 16777000) (h0 : Ms 0 = M1)
    (he : ∀ i : Nat, (i : Int) < n → EvD K te (Ms i) (E.set j (some (rint (i : Int)))) (Ms (i + 1)) (rint (f i))) :
    EvD K (tLc (iRng1 t) (gName j) tYes te [j]) M E (Ms n.toNat ++ [.lst (((List.range n.toNat).map f).map D.int)]) (.cel (Ms n.toNat).length) := by
  have h := ev_lcR1M (tt := tYes) Ms (fun _ => true) (fun i => .int (f i)) ha hn h0 fun i hi => LcT.moved (he i hi)
  rw [givD_all] at h
  have e : ((List.range n.toNat).map fun i => D.int (f i)) = ((List.range n.toNat).map f).map D.int := by rw [List.map_map]; rfl
  rwa [e] at h
/-! ### truth of a list -/
theorem et_truL {ds : List D} (ha : EvD K ta M E M1 x) (h : IsLst M1 x ds) : EvT K (fun σ H Q => ta σ H fun x H' => ∃ k, TruV K x H' k ∧ Q k H') M E M1 (!ds.isEmpty) := fun B F As σ H S Q q =>
  ha B F As σ H S _ fun v F1 As1 H1 S1 e1 p1 r1 => by
    obtain ⟨a, vs, rfl, hA, pa⟩ := h.view S1 r1
    refine ⟨!ds.isEmpty, .inl ⟨vs, SqL.of hA, ?_⟩, q F1 As1 H1 S1 e1 p1⟩
    have := pa.1
    cases ds <;> cases vs <;> first | rfl | simp at this
/-- an item of a dict that the top has written -/
theorem ev_kdict {w : World} {a : Addr} {k : Str} {n : Int} (hb : EvD K tb M E M1 (rstr k)) (h : L2.KDct K w a k (.int n)) : EvD K (tOp (rIxD K w) (tC (.ref a)) tb) M E M1 (rint n) := fun B F As σ H S Q q =>
  hb B F As σ H S _ fun v F1 As1 H1 S1 e1 p1 r1 => ⟨a, k, .int n, rfl, R.str_inv r1, h, q _ F1 As1 H1 S1 e1 p1 (.int n)⟩
theorem cutD_len {α : Type} (xs : List α) (lo hi : Option Int) : (cutD xs lo hi).length ≤ xs.length := by
  unfold cutD
  rw [List.length_take, List.length_drop]; omega
/-! ### any item of a list or a tuple -/
theorem od_ixD {ds : List D} {i : Int} {d : D} (h : IsLst M x ds) (ha : atI ds i = some d) : OpD K (rIx K) M x (rint i) M (.dat d) := fun B F As σ E H v w S r1 r2 Q q =>
  .inl (od_ixL h ha B F As σ E H v w S r1 r2 Q q)
theorem od_ixDT {ds : List D} {i : Int} {d : D} (ha : atI ds i = some d) : OpD K (rIx K) M (.dat (.tup ds)) (rint i) M (.dat d) := fun B F As σ E H v w S r1 r2 Q q =>
  .inr (.inl (od_ixT ha B F As σ E H v w S r1 r2 Q q))
/-! ### for k in d -/
theorem for_keys {d : Addr} {o : Obj} {kvs : List (Key × V)} {g : TG} {tb : TS} {D : Ends} {σ : St} {H : Hp} (Pv : Nat → St → Hp → Prop) (h0 : Pv 0 σ H) (hl : ∀ i σ H, Pv i σ H → H d = some (.frz o (.dK kvs)))
    (hs : ∀ (i : Nat) (k : Key) (v : V) (σ : St) (H : Hp), kvs[i]? = some (k, v) → Pv i σ H → g (kV k) σ H fun σ2 H2 => tb { D with nx := Pv (i + 1), ct := Pv (i + 1), bk := D.nx } σ2 H2) (hd : ∀ σ H, Pv kvs.length σ H → D.nx σ H) :
    ∃ W : Nat → Nat → St → Hp → Prop, (∃ m, W 0 m σ H) ∧ ∀ i m σ H, W i m σ H →
      ((Itk d o kvs).stop i H ∧ D.nx σ H) ∨ ((Itk d o kvs).go i H ∧ ∃ N : St → Hp → Prop, (∀ σ' H', N σ' H' → ∃ m', m' < m ∧ W (i + 1) m' σ' H') ∧ ∀ x H', (Itk d o kvs).yld i H x H' → g x σ H' fun σ2 H2 => tb { D with nx := N, ct := N, bk := D.nx } σ2 H2) := by
  refine ⟨fun i m σ H => m = kvs.length - i ∧ i ≤ kvs.length ∧ Pv i σ H, ⟨kvs.length, by simp, Nat.zero_le _, h0⟩, ?_⟩
  rintro i m σ H ⟨rfl, hi, p⟩
  by_cases hlt : i < kvs.length
  · refine .inr ⟨⟨hl i σ H p, hlt⟩, Pv (i + 1), fun σ' H' p' => ⟨kvs.length - (i + 1), by omega, rfl, hlt, p'⟩, fun x H' hy => ?_⟩
    obtain ⟨e, k, v, hk, ex⟩ := hy
    subst e; subst ex
    exact hs i k v σ _ hk p
  · have e : i = kvs.length := by omega
    subst e
    exact .inl ⟨⟨hl _ σ H p, Nat.le_refl _⟩, hd σ H p⟩
end
/-! ### equality as the laws ask it -/
noncomputable def deq (d e : D) : Bool := @decide (d = e) (Classical.propDecidable _)
theorem deq_eq {d e : D} (h : d = e) : deq d e = true := @decide_eq_true _ (Classical.propDecidable _) h
theorem deq_ne {d e : D} (h : d ≠ e) : deq d e = false := @decide_eq_false _ (Classical.propDecidable _) h
theorem deq_self (d : D) : deq d d = true := deq_eq rfl
theorem deq_int {i j : Int} : deq (.int i) (.int j) = decide (i = j) := by
  by_cases h : i = j
  · rw [deq_eq (by rw [h]), decide_eq_true h]
  · rw [deq_ne (fun z => h (by injection z)), decide_eq_false h]
theorem deq_bl {i j : Bool} : deq (.bl i) (.bl j) = decide (i = j) := by
  by_cases h : i = j
  · rw [deq_eq (by rw [h]), decide_eq_true h]
  · rw [deq_ne (fun z => h (by injection z)), decide_eq_false h]
theorem deq_str {i j : Str} : deq (.str i) (.str j) = decide (i = j) := by
  by_cases h : i = j
  · rw [deq_eq (by rw [h]), decide_eq_true h]
  · rw [deq_ne (fun z => h (by injection z)), decide_eq_false h]
/-- data of lists and tuples, at most so deep -/
def Plain : Nat → D → Prop
  | 0, _ => False
  | _ + 1, .non => True
  | _ + 1, .bl _ => True
  | _ + 1, .int _ => True
  | _ + 1, .str s => PyData.strOk s = true
  | n + 1, .lst ds => ds.length ≤ 16777216 ∧ ∀ d ∈ ds, Plain n d
  | n + 1, .tup ds => ds.length ≤ 16777216 ∧ ∀ d ∈ ds, Plain n d
  | _ + 1, _ => False
theorem Plain.ints {ns : List Int} (n : Nat) (h : ns.length ≤ 16777216) : Plain (n + 2) (.lst (ns.map D.int)) := ⟨by rw [List.length_map]; exact h, fun d hd => by
  obtain ⟨k, _, rfl⟩ := List.mem_map.mp hd
  exact trivial⟩
theorem Plain.pair (n : Nat) (p : Int × Int) : Plain (n + 2) (pairD p) := ⟨by show 2 ≤ 16777216; decide, fun d hd => by
  rcases List.mem_cons.mp hd with rfl | hd
  · exact trivial
  · have : d = .int p.2 := by simpa using hd
    subst this; exact trivial⟩
end DL
set_option Elab.async false
set_option linter.all false
set_option maxRecDepth 100000
set_option maxHeartbeats 4000000
/-! DL: the hand layer's rules with the written part named (a comprehension's block has the same one as its def). -/
namespace DL
open PySem L2 PySem.Spec PyProof.Rows
section
variable {X : Cx} {K : PySem.W.Frag}
theorem ix_listK (hK : X.K = K) : IxR X (rIxL K) := hK ▸ ix_list
theorem ix_tupK (hK : X.K = K) : IxR X (rIxT K) := hK ▸ ix_tup
theorem ix_seqK (hK : X.K = K) : IxR X (rIx K) := hK ▸ ix_seq
theorem ix_kdictK {w : World} (hK : X.K = K) (hw : X.w = w) : IxR X (rIxD K w) := hK ▸ hw ▸ ix_kdict
theorem op_inK (hK : X.K = K) : OpR X (compareOp .In) (rIn K false) := hK ▸ op_in_seq
theorem op_notInK (hK : X.K = K) : OpR X (compareOp .NotIn) (rIn K true) := hK ▸ op_notIn_seq
theorem op_eqDK (hu : X.A.units + 64 < cLine) (hK : X.K = K) : OpR X (compareOp .Eq) (rEqD K) := hK ▸ op_eqD hu
theorem op_neDK (hu : X.A.units + 64 < cLine) (hK : X.K = K) : OpR X (compareOp .NotEq) (rNeD K) := hK ▸ op_neD hu
theorem call_lenK (hK : X.K = K) : CallR X (.builtin "len") (fun xs H Q => ∃ p ys, xs = [V.ref p] ∧ (SqL K H p ys ∨ SqT K H p ys) ∧ Q (V.int (ys.length : Nat)) H) := hK ▸ call_len_seq
theorem call_listK (hK : X.K = K) : CallR X (.type "list") (fun xs H Q => ∃ p ys, xs = [V.ref p] ∧ (SqL K H p ys ∨ SqT K H p ys) ∧ ∀ (l : Addr), H l = none → Q (V.ref l) (upd H l (HO.lst ys))) := hK ▸ call_list_of
theorem call_tupleK (hK : X.K = K) : CallR X (.type "tuple") (fun xs H Q => ∃ p ys, xs = [V.ref p] ∧ ((SqL K H p ys ∧ ∀ (l : Addr), H l = none → Q (V.ref l) (upd H l (HO.tup ys))) ∨ SqT K H p ys ∧ Q (V.ref p) H)) := hK ▸ call_tuple_of
theorem cr_sumK (hc : X.calm = true) (hK : X.K = K) : CallR X (.builtin "sum") (rSum K) := hK ▸ cr_sum hc
theorem cr_maxK (hc : X.calm = true) (hK : X.K = K) : CallR X (.builtin "max") (rMax K) := hK ▸ cr_max hc
theorem cr_minK' (hc : X.calm = true) (hK : X.K = K) : CallR X (.builtin "min") (rMin K) := hK ▸ cr_min hc
theorem cr_minPK (hc : X.calm = true) (hu : X.A.units + 64 < cLine) (hK : X.K = K) : CallR X (.builtin "min") (rMinD K) := hK ▸ cr_minP hc hu
theorem cr_sortedK (hK : X.K = K) : CallR X (.builtin "sorted") (rSortedI K) := hK ▸ cr_sortedI
theorem cr_allK (hc : X.calm = true) (hK : X.K = K) : CallR X (.builtin "all") (rAll K) := hK ▸ cr_all hc
theorem cr_anyK (hc : X.calm = true) (hK : X.K = K) : CallR X (.builtin "any") (rAny K) := hK ▸ cr_any hc
theorem call_isiK' (hK : X.K = K) : CallR X (.builtin "isinstance") (rIsi K) := hK ▸ call_isi
theorem sl_listK (hK : X.K = K) : SlR X (rSlL K) := hK ▸ sl_list
theorem sl_tupK (hK : X.K = K) : SlR X (rSlT K) := hK ▸ sl_tup
theorem pget_listK (hK : X.K = K) : PGet X (rIxL K) := hK ▸ pget_list
theorem pi_listK {tg l : Expr} {tl : TE} (hK : X.K = K) (h : PE X l tl) : PI X tg l (iList K tl) := hK ▸ pi_list h
theorem pi_tupK {tg l : Expr} {tl : TE} (hK : X.K = K) (h : PE X l tl) : PI X tg l (iTup K tl) := hK ▸ pi_tup h
theorem pe_revLK {e : Expr} {te : TE} {k : Nat} {p1 p2 p3 pos : Pos} (hK : X.K = K) (he : PE X e te) : PE X (.Subscript e (.Slice none none (some (.UnaryOp .USub (.Constant (.int 1) k p1) p2)) p3) pos) (tRevL K te) := hK ▸ pe_revL he
theorem pt_truthK {a : Expr} {ta : TE} (hK : X.K = K) (ha : PE X a ta) (h : ∀ (whole : Sem Value), PySem.isTrue a X.env whole = (do
      let v ← whole
      standAt a.pos
      holding [v] (truthy v)) := by intro _; rfl) : PT X a (fun σ H Q => ta σ H fun x H' => ∃ k, TruV K x H' k ∧ Q k H') := hK ▸ pt_truth ha h
theorem pg_tupK {es : List Expr} {k : Nat} {t : TGs} {n : Nat} {pos : Pos} (hK : X.K = K) (hc : X.calm = true) (h : PGs X es t)
    (hn : (assignEach es X.env).length = n := by rfl) (hst : (assignEach es X.env).findIdx? (·.1) = none := by rfl) : PG X (.Tuple es k pos) (gTup K n t) := hK ▸ pg_tup hc h hn hst
theorem pe_bmK {o e : Expr} {es : List Expr} {to : TE} {t : TA} {name : Str} {apos cpos : Pos} {T id : String} {r : V → List V → Hp → VK → Prop} (hK : X.K = K) (h : PE X (.Call (.Attribute o name apos) (e :: es) [] cpos) (tBM X.K T r to t)) : PE X (.Call (.Attribute o name apos) (e :: es) [] cpos) (tBM K T r to t) := hK ▸ h
theorem pe_bm0K' {o : Expr} {to : TE} {name : Str} {apos cpos : Pos} {T id : String} {r : V → List V → Hp → VK → Prop} (hK : X.K = K) (h : PE X (.Call (.Attribute o name apos) [] [] cpos) (tBM0 X.K T r to)) : PE X (.Call (.Attribute o name apos) [] [] cpos) (tBM0 K T r to) := hK ▸ h
theorem pe_fldK {e : Expr} {f : Str} {ta : TE} {pos : Pos} (hK : X.K = K) (h : PE X (.Attribute e f pos) (tFld X.K ta f)) : PE X (.Attribute e f pos) (tFld K ta f) := hK ▸ h
theorem ps_fldK {o v : Expr} {f : Str} {ta tv : TE} {p1 p2 : Pos} (hK : X.K = K) (h : PS X (.Assign [.Attribute o f p1] v p2) (sFld X.K ta tv f)) : PS X (.Assign [.Attribute o f p1] v p2) (sFld K ta tv f) := hK ▸ h
end
end DL
set_option Elab.async false
set_option linter.all false
set_option maxRecDepth 100000
set_option maxHeartbeats 2000000
/-! DL, tenth part: a loop over a dict's keys, the dict locked meanwhile; calls of defs inside. -/
namespace DL
open PySem L2
open Evl (Ex)
section
variable {K : PySem.W.Frag} {B : Base} {F F' F1 H H' H1 : Hp} {σ σ' : St} {E E' : List (Option Rv)} {Φ : List MC → List Rv → List MC → Out → Prop}
/-- the heap without what stands at a -/
def del (F : Hp) (a : Addr) : Hp := fun b => if b = a then none else F b
theorem del_same {a : Addr} : del F a a = none := if_pos rfl
theorem del_ne {a b : Addr} (h : b ≠ a) : del F a b = F b := if_neg h
theorem del_some {a b : Addr} {o : HO} (h : del F a b = some o) : b ≠ a ∧ F b = some o := by
  by_cases e : b = a
  · rw [e, del_same] at h; cases h
  · rw [del_ne e] at h; exact ⟨e, h⟩
theorem R.apart {a : Addr} {ws : List (Key × V)} (ha : F a = some (.dK ws)) : ∀ {n : Nat} {d : D} {v : V}, Plain n d → R K F d v → R K (del F a) d v
  | 0, _, _, h, _ => h.elim
  | n + 1, d, v, h, r => by
    cases r with
    | non => exact .non
    | bl b => exact .bl b
    | int i => exact .int i
    | str s => exact .str s
    | lst hb hl hr =>
      refine .lst (by rw [del_ne (fun z => by rw [z, ha] at hb; cases hb)]; exact hb) hl fun i d v e1 e2 => R.apart ha (h.2 d (List.mem_of_getElem? e1)) (hr i d v e1 e2)
    | tup hb hl hr =>
      refine .tup (by rw [del_ne (fun z => by rw [z, ha] at hb; cases hb)]; exact hb) hl fun i d v e1 e2 => R.apart ha (h.2 d (List.mem_of_getElem? e1)) (hr i d v e1 e2)
    | dct _ _ _ => exact h.elim
    | ins _ _ _ => exact h.elim
    | scr _ => exact h.elim
/-- a def's promise, at one place -/
theorem FSp.at0 {As1 : List Addr} {M1 : List MC} {vs : List V} {xs : List D} {d : D} {Q : VK} {X : XK} (S1 : Sta K B F1 As1 M1 σ E H1) (r0 : P2 (R K F1) xs vs) (hΦ : Φ [] (xs.map Rv.dat) [] (.ret d))
    (q : ∀ v F' H', Sta K B F' As1 M1 σ E H' → Ex F1 F' → R K F' d v → Q v H') : FSp K Φ vs H1 Q X := by
  refine ⟨F1, [], [], xs.map Rv.dat, [], .ret d, ⟨S1.ex, rfl, List.nodup_nil, fun k a mc h => by simp at h, ⟨by simp [r0.1], fun i r h => ?_⟩, Ex.refl F1, fun a o h _ => h, fun a o _ h => h, fun a h => (by cases h), fun a o h => ⟨o, h⟩, fun a h => (by cases h), List.prefix_refl _⟩, Live.nil, hΦ, fun v F' As' M'' H' fin rv => ?_⟩
  · rw [List.getElem?_map, List.getElem?_map] at h
    cases c : xs[i]? with
    | none => rw [c] at h; cases h
    | some x =>
      rw [c] at h; cases h
      obtain ⟨v, hv, rv⟩ := r0.get c
      exact ⟨v, by rw [List.getElem?_map, hv]; rfl, rv⟩
  · obtain ⟨σ', E', S'⟩ := fin.sta
    have keep : ∀ a o, H1 a = some o → H' a = some o := fun a o h => S'.bH a o h (fun z => by cases z)
    refine q v F' H' ⟨S'.ex, S1.len, S1.nd, fun k a mc h1 h2 h3 => ?_, S1.slots.mono S'.bF (List.prefix_refl _), S1.bF.trans S'.bF, fun a o h hP => keep _ _ (S1.bH a o h hP), fun a o h h0 => ?_, S1.bA, fun a o h => ?_, fun a h => ?_, S1.pA⟩ S'.bF rv
    · obtain ⟨h4, o, h5, h6⟩ := S1.cell k a mc h1 h2 h3
      exact ⟨S'.bN a o h5 h4, o, keep _ _ h5, h6.mono S'.bF⟩
    · obtain ⟨u, hu⟩ := S1.bK a o h
      exact S'.bN a u hu (S1.bN a o h h0)
    · obtain ⟨u, hu⟩ := S1.bK a o h
      exact ⟨u, keep _ _ hu⟩
    · obtain ⟨u, hu⟩ := S1.kn a h
      exact ⟨u, keep _ _ hu⟩
/-- inside the loop: what stood before, the dict at a locked -/
structure InL (K : PySem.W.Frag) (F H : Hp) (a : Addr) (ws : List (Key × V)) (od : Obj) (σ0 : St) (j : Nat) (F' : Hp) (σ' : St) (H' : Hp) : Prop where
  sta : Sta K (Sta.self (del F a) (upd H a (.frz od (.dK ws))) []) F' [] [] σ' (List.replicate σ0.length none) H'
  same : ∀ m, m ≠ j → σ'[m]? = σ0[m]?
theorem InL.rd {a b : Addr} {ws : List (Key × V)} {od : Obj} {σ0 : St} {j : Nat} {u : HO} (L : InL K F H a ws od σ0 j F' σ' H') (ha : F a = some (.dK ws)) (h : F b = some u) : Rd H' b u := by
  by_cases e : b = a
  · subst e
    rw [ha] at h; cases h
    exact .inr ⟨od, L.sta.bH b _ upd_same (fun z => by cases z)⟩
  · exact .inl (L.sta.ex _ _ (L.sta.bF _ _ (by show del F a b = _; rw [del_ne e]; exact h)))
theorem s_lockK {i j : Nat} {kvs : List (Key × D)} {u : TS} {D : Ends} {As : List Addr} (S : Sta K B F As [] σ E H) (hE : E[i]? = some (some (.dat (.dct kvs)))) (hj : j < E.length)
    (hb : ∀ (a : Addr) (ws : List (Key × V)) (od : Obj) (F' : Hp) (σ' : St) (H' : Hp) (D' : Ends) (n : Nat) (k : Key) (d : DL.D), F a = some (.dK ws) → PK (R K F) kvs ws → σ[i]? = some (some (.ref a)) → InL K F H a ws od σ j F' σ' H' →
      kvs[n]? = some (k, d) → σ'[j]? = some (some (kV k)) → (∀ F'' H'', InL K F H a ws od σ j F'' σ' H'' → D'.nx σ' H'') → u D' σ' H')
    (hd : Nxt K B [] (E.set j none) D.nx) : tLock (tFor (iKeys (tVar i)) (gName j) u) D σ H := by
  have hAs : As = [] := List.eq_nil_of_length_eq_zero S.len
  subst hAs
  obtain ⟨v, hv, rv⟩ := S.slots.2 i _ hE
  obtain ⟨a, ws, rfl, ha, pa⟩ := R.dct_inv rv
  have hlen := S.slots.1
  refine ⟨a, .dK ws, S.ex _ _ ha, trivial, fun od => ⟨.ref a, hv, a, od, rfl, .inl ⟨ws, upd_same, ?_⟩⟩⟩
  refine for_keys (fun _ σ' H' => ∃ F', InL K F H a ws od σ j F' σ' H') ⟨del F a, ?_, fun _ _ => rfl⟩ (fun n σ' H' ⟨F', L⟩ => L.sta.bH a _ upd_same (fun z => by cases z)) (fun n k v σ' H' hk ⟨F', L⟩ => ?_) (fun σ' H' ⟨F', L⟩ => ⟨L.sta.bH a _ upd_same (fun z => by cases z), hd (upd F' a (.dK ws)) [] σ' _ ?_⟩)
  · exact ⟨fun b o h => by obtain ⟨h1, h2⟩ := del_some h; rw [upd_ne h1]; exact S.ex _ _ h2, rfl, List.nodup_nil, fun k a mc h => by simp at h, ⟨by rw [List.length_replicate], fun i r h => by rw [List.getElem?_replicate] at h; split at h <;> cases h⟩, Ex.refl _, fun b o h _ => h, fun b o _ h => h, fun b h => (by cases h), fun b o h => ⟨o, h⟩, fun b h => (by cases h), List.prefix_refl _⟩
  · have hk2 : ∃ d, kvs[n]? = some (k, d) := by
      have h1 : n < kvs.length := by rw [pa.1]; exact (List.getElem?_eq_some_iff.mp hk).1
      have h2 := (pa.2 n _ _ (List.getElem?_eq_getElem h1) hk).1
      exact ⟨kvs[n].2, by rw [List.getElem?_eq_getElem h1]; exact congrArg some (Prod.ext h2 rfl)⟩
    obtain ⟨d, hk2⟩ := hk2
    have hl2 : σ'.length = σ.length := by have := L.sta.slots.1; rw [List.length_replicate] at this; exact this.symm
    have L2 : InL K F H a ws od σ j F' (σ'.set j (some (kV k))) H' := ⟨{ L.sta with slots := ⟨by rw [List.length_replicate, List.length_set, hl2], fun i r h => by rw [List.getElem?_replicate] at h; split at h <;> cases h⟩ }, fun m hm => by rw [List.getElem?_set_ne (fun z => hm z.symm)]; exact L.same m hm⟩
    exact hb a ws od F' _ H' _ n k d ha pa hv L2 hk2 (by rw [List.getElem?_set_self (by rw [hl2, ← hlen]; exact hj)]) fun F'' H'' L3 => ⟨F'', L3⟩
  · have S' := L.sta
    have exF : Ex F (upd F' a (.dK ws)) := fun b o h => by
      by_cases e : b = a
      · subst e; rw [ha] at h; cases h; exact upd_same
      · rw [upd_ne e]; exact S'.bF _ _ (by show del F a b = _; rw [del_ne e]; exact h)
    have up1 : ∀ b o, H b = some o → ∃ o', upd H a (.frz od (.dK ws)) b = some o' := fun b o h => by
      by_cases e : b = a
      · subst e; exact ⟨_, upd_same⟩
      · exact ⟨o, by rw [upd_ne e]; exact h⟩
    refine ⟨fun b o h => ?_, rfl, List.nodup_nil, fun k a mc h => by simp at h, ⟨by rw [List.length_set, hlen]; have := S'.slots.1; rw [List.length_replicate] at this; exact this, fun m r h => ?_⟩, S.bF.trans exF, fun b o h hP => ?_, fun b o h h0 => ?_, fun b h => (by cases h), fun b o h => ?_, fun b h => (by cases h), S.pA⟩
    · by_cases e : b = a
      · subst e; rw [upd_same] at h ⊢; exact h
      · rw [upd_ne e] at h ⊢; exact S'.ex _ _ h
    · by_cases e : j = m
      · subst e
        rw [List.getElem?_set_self hj] at h; cases h
      · rw [List.getElem?_set_ne e] at h
        obtain ⟨v, hv, rv⟩ := S.slots.2 m r h
        exact ⟨v, by rw [L.same m (fun z => e z.symm)]; exact hv, rv.mono exF (List.prefix_refl _)⟩
    · have h1 := S.bH b o h hP
      by_cases e : b = a
      · subst e
        have h2 := S.ex _ _ ha
        rw [h2] at h1; cases h1
        exact upd_same
      · rw [upd_ne e]
        exact S'.bH b o (by show upd H a _ b = _; rw [upd_ne e]; exact h1) (fun z => by cases z)
    · have h1 := S.bN b o h h0
      have e : b ≠ a := fun z => by rw [z, ha] at h1; cases h1
      obtain ⟨o2, h2⟩ := S.bK b o h
      rw [upd_ne e]
      exact S'.bN b o2 (by show upd H a _ b = _; rw [upd_ne e]; exact h2) (by show del F a b = _; rw [del_ne e]; exact h1)
    · obtain ⟨o2, h2⟩ := S.bK b o h
      obtain ⟨o3, h3⟩ := up1 b o2 h2
      obtain ⟨o4, h4⟩ := S'.bK b o3 h3
      by_cases e : b = a
      · subst e; exact ⟨_, upd_same⟩
      · exact ⟨o4, by rw [upd_ne e]; exact h4⟩
theorem q_lockK {i j : Nat} {kvs : List (Key × D)} {u t : TS} {D : Ends} {As : List Addr} (S : Sta K B F As [] σ E H) (hE : E[i]? = some (some (.dat (.dct kvs)))) (hj : j < E.length)
    (hb : ∀ (a : Addr) (ws : List (Key × V)) (od : Obj) (F' : Hp) (σ' : St) (H' : Hp) (D' : Ends) (n : Nat) (k : Key) (d : DL.D), F a = some (.dK ws) → PK (R K F) kvs ws → σ[i]? = some (some (.ref a)) → InL K F H a ws od σ j F' σ' H' →
      kvs[n]? = some (k, d) → σ'[j]? = some (some (kV k)) → (∀ F'' H'', InL K F H a ws od σ j F'' σ' H'' → D'.nx σ' H'') → u D' σ' H')
    (hd : Nxt K B [] (E.set j none) (t D)) : tSeq (tLock (tFor (iKeys (tVar i)) (gName j) u)) t D σ H := s_lockK (D := { D with nx := t D }) S hE hj hb hd
end
end DL
set_option Elab.async false
set_option linter.all false
set_option maxRecDepth 100000
set_option maxHeartbeats 4000000
/-! The wheels, in plain lists: which shifts are spoiled (laws k25, k84, ..). -/
namespace DL
open PySem L2
/-! ### tables -/
section
variable {κ α : Type} [DecidableEq κ]
theorem valG_put (kvs : List (κ × α)) (k j : κ) (v : α) : valG (putG kvs k v) j = if j = k then some v else valG kvs j := by
  induction kvs with
  | nil =>
    show ([(k, v)].find? _).map _ = _
    by_cases e : k = j
    · rw [if_pos e.symm, List.find?_cons_of_pos (by simpa using e)]; rfl
    · rw [if_neg (fun z => e z.symm), List.find?_cons_of_neg (by simpa using e)]; rfl
  | cons p r ih =>
    unfold putG at ih ⊢
    rw [List.any_cons]
    by_cases hp : p.1 = k
    · rw [decide_eq_true hp, Bool.true_or, if_pos rfl, List.map_cons, if_pos hp]
      have tl : valG (r.map fun kv => if kv.1 = k then (kv.1, v) else kv) j = if j = k then (valG r j).map (fun _ => v) else valG r j := by
        clear ih
        induction r with
        | nil => by_cases e : j = k <;> simp [valG, e]
        | cons q r ih2 =>
          rw [List.map_cons]
          unfold valG at ih2 ⊢
          by_cases hq : q.1 = k
          · rw [if_pos hq]
            by_cases e : q.1 = j
            · rw [List.find?_cons_of_pos (by simpa using e), List.find?_cons_of_pos (by simpa using e), if_pos (e.symm.trans hq)]; rfl
            · rw [List.find?_cons_of_neg (by simpa using e), List.find?_cons_of_neg (by simpa using e)]; exact ih2
          · rw [if_neg hq]
            by_cases e : q.1 = j
            · rw [List.find?_cons_of_pos (by simpa using e), List.find?_cons_of_pos (by simpa using e), if_neg (fun z => hq (e.trans z))]
            · rw [List.find?_cons_of_neg (by simpa using e), List.find?_cons_of_neg (by simpa using e)]; exact ih2
      by_cases e : p.1 = j
      · rw [if_pos (e.symm.trans hp)]
        unfold valG
        rw [List.find?_cons_of_pos (by simpa using e)]; rfl
      · have e2 : ¬ j = k := fun z => e (hp.trans z.symm)
        rw [if_neg e2] at tl ⊢
        unfold valG at tl ⊢
        rw [List.find?_cons_of_neg (by simpa using e), List.find?_cons_of_neg (by simpa using e)]; exact tl
    · rw [decide_eq_false hp, Bool.false_or]
      by_cases e : p.1 = j
      · have e2 : ¬ j = k := fun z => hp (e.trans z)
        rw [if_neg e2]
        split
        · rw [List.map_cons, if_neg hp]
          unfold valG
          rw [List.find?_cons_of_pos (by simpa using e), List.find?_cons_of_pos (by simpa using e)]
        · unfold valG
          rw [List.cons_append, List.find?_cons_of_pos (by simpa using e), List.find?_cons_of_pos (by simpa using e)]
      · have s1 : valG (p :: r) j = valG r j := by unfold valG; rw [List.find?_cons_of_neg (by simpa using e)]
        rw [s1, ← ih]
        split
        · rw [List.map_cons, if_neg hp]
          unfold valG
          rw [List.find?_cons_of_neg (by simpa using e)]
        · unfold valG
          rw [List.cons_append, List.find?_cons_of_neg (by simpa using e)]
theorem valG_none {kvs : List (κ × α)} {k : κ} : valG kvs k = none ↔ k ∉ kvs.map (·.1) := by
  induction kvs with
  | nil => simp [valG]
  | cons p r ih =>
    unfold valG at ih ⊢
    by_cases e : p.1 = k
    · rw [List.find?_cons_of_pos (by simpa using e)]; simp [e]
    · rw [List.find?_cons_of_neg (by simpa using e), ih, List.map_cons, List.mem_cons]
      exact ⟨fun h z => by
        rcases z with z | z
        · exact e z.symm
        · exact h z, fun h z => h (.inr z)⟩
theorem keys_put {kvs : List (κ × α)} {k : κ} {v : α} (h : valG kvs k = none) : (putG kvs k v).map (·.1) = kvs.map (·.1) ++ [k] := by
  unfold putG
  rw [if_neg, List.map_append]
  · rfl
  · intro z
    obtain ⟨p, hp, e⟩ := List.any_eq_true.mp z
    exact valG_none.mp h (List.mem_map.mpr ⟨p, hp, by simpa using e⟩)
theorem len_put {kvs : List (κ × α)} {k : κ} {v : α} : (putG kvs k v).length ≤ kvs.length + 1 := by
  unfold putG
  split
  · rw [List.length_map]; omega
  · rw [List.length_append]; exact Nat.le_refl _
end
/-! ### wheels -/
/-- a place of a wheel, round about -/
def cyc (w : List Int) (n : Nat) (k : Int) : Int := gI w (k % n)
theorem emod_of {a b n : Int} (k : Int) (h : a = b + n * k) : a % n = b % n := by rw [h, Int.add_mul_emod_self_left]
theorem cyc_of {w : List Int} {n : Nat} {a b : Int} (k : Int) (h : a = b + n * k) : cyc w n a = cyc w n b := by unfold cyc; rw [emod_of k h]
theorem emod_is (a n : Int) : a % n = a + n * (-(a / n)) := by rw [Int.emod_def]; rw [Int.mul_neg]; omega
theorem cyc_mod {w : List Int} {n : Nat} (a : Int) : cyc w n (a % n) = cyc w n a := cyc_of (-(a / n)) (emod_is a n)
theorem cyc_sub {w : List Int} {n : Nat} (a b : Int) : cyc w n (a - b % n) = cyc w n (a - b) := cyc_of (b / n) (by rw [Int.emod_def]; omega)
theorem emod_rng {n : Nat} (h : 0 < n) (a : Int) : 0 ≤ a % n ∧ a % n < n := ⟨Int.emod_nonneg _ (by omega), Int.emod_lt_of_pos _ (by omega)⟩
theorem emod_id {n : Nat} {a : Int} (h0 : 0 ≤ a) (h1 : a < n) : a % n = a := Int.emod_eq_of_lt h0 h1
/-- shift s is spoiled at the bore's place i -/
def badAt (bs ps : List Int) (n : Nat) (s : Int) (i : Nat) : Bool := decide (gI bs i < gI ps (((i : Int) - s) % n))
def Bad (bs ps : List Int) (n : Nat) (s : Int) : Prop := ∃ i : Int, cyc bs n i < cyc ps n (i - s)
def fstBad (bs ps : List Int) (n m : Nat) (s : Int) : Option Nat := (List.range m).find? (badAt bs ps n s)
theorem badAt_cyc {bs ps : List Int} {n i : Nat} {s : Int} (hi : i < n) : badAt bs ps n s i = decide (cyc bs n i < cyc ps n (i - s)) := by
  unfold badAt
  rw [show cyc bs n (i : Int) = gI bs i by unfold cyc; rw [emod_id (by omega) (by omega)]]
  rfl
theorem fst_bad {bs ps : List Int} {n : Nat} (hn : 0 < n) {s : Int} : (fstBad bs ps n n s).isSome = true ↔ Bad bs ps n s := by
  unfold fstBad
  rw [List.find?_isSome]
  constructor
  · rintro ⟨i, hi, hb⟩
    rw [List.mem_range] at hi
    rw [badAt_cyc hi] at hb
    exact ⟨i, of_decide_eq_true hb⟩
  · rintro ⟨i, hb⟩
    obtain ⟨r0, r1⟩ := emod_rng hn i
    refine ⟨(i % n).toNat, List.mem_range.mpr (by omega), ?_⟩
    rw [badAt_cyc (by omega)]
    have e : (((i % n).toNat : Nat) : Int) = i % n := by omega
    rw [e, cyc_mod]
    refine decide_eq_true ?_
    rw [show cyc ps n (i % n - s) = cyc ps n (i - s) from cyc_of (-(i / n)) (by rw [Int.emod_def, Int.mul_neg]; omega)]
    exact hb
theorem Bad.mod {bs ps : List Int} {n : Nat} {s t : Int} (k : Int) (h : s = t + n * k) : Bad bs ps n s ↔ Bad bs ps n t := by
  constructor
  · rintro ⟨i, hb⟩
    exact ⟨i, by rw [show cyc ps n (i - t) = cyc ps n (i - s) from cyc_of k (by rw [h]; omega)]; exact hb⟩
  · rintro ⟨i, hb⟩
    exact ⟨i, by rw [show cyc ps n (i - s) = cyc ps n (i - t) from cyc_of (-k) (by rw [h, Int.mul_neg]; omega)]; exact hb⟩
theorem Bad.emod {bs ps : List Int} {n : Nat} {s : Int} : Bad bs ps n (s % n) ↔ Bad bs ps n s := Bad.mod _ (emod_is s n)
/-! ### the program's dict of spoiled shifts -/
abbrev sk (s : Int) : Key := Sum.inl s
/-- one couple of places -/
def stp (bs ps : List Int) (n i j : Nat) (acc : List (Key × D)) : List (Key × D) :=
  if gI bs i < gI ps j ∧ valG acc (sk (((i : Int) - j) % n)) = none then putG acc (sk (((i : Int) - j) % n)) (pairD (i, j)) else acc
def inn (bs ps : List Int) (n i : Nat) : Nat → List (Key × D) → List (Key × D)
  | 0, acc => acc
  | j + 1, acc => stp bs ps n i j (inn bs ps n i j acc)
def spD (bs ps : List Int) (n : Nat) : Nat → List (Key × D)
  | 0 => []
  | i + 1 => inn bs ps n i n (spD bs ps n i)
/-- the place of the pin that shift s lays on the bore's place i -/
def pinAt (n : Nat) (i s : Int) : Int := (i - s) % n
theorem sub_sub_emod {n : Nat} {i j : Int} (h0 : 0 ≤ j) (h1 : j < n) : (i - (i - j) % n) % n = j := by
  rw [show (i - (i - j) % n) % (n : Int) = j % n from emod_of ((i - j) / n) (by rw [Int.emod_def]; omega)]
  exact emod_id h0 h1
theorem inn_val {bs ps : List Int} {n i : Nat} {acc : List (Key × D)} {s : Int} (h0 : 0 ≤ s) (h1 : s < n) : ∀ {j : Nat}, j ≤ n →
    valG (inn bs ps n i j acc) (sk s) = if (valG acc (sk s)).isSome = true then valG acc (sk s) else if gI bs i < gI ps (((i : Int) - s) % n) ∧ ((i : Int) - s) % n < j then some (pairD (i, ((i : Int) - s) % n)) else none
  | 0, _ => by
    have hr := emod_rng (n := n) (by omega) ((i : Int) - s)
    rw [show inn bs ps n i 0 acc = acc from rfl]
    by_cases c : (valG acc (sk s)).isSome = true
    · rw [if_pos c]
    · rw [if_neg c, if_neg (by omega)]
      cases h : valG acc (sk s) with
      | none => rfl
      | some d => rw [h] at c; exact absurd rfl c
  | j + 1, hj => by
    have hr := emod_rng (n := n) (by omega) ((i : Int) - s)
    have ih := inn_val (bs := bs) (ps := ps) (n := n) (i := i) (acc := acc) h0 h1 (j := j) (by omega)
    show valG (stp bs ps n i j (inn bs ps n i j acc)) (sk s) = _
    unfold stp
    by_cases e : s = ((i : Int) - j) % n
    · have ej : ((i : Int) - s) % n = j := by rw [e]; exact sub_sub_emod (by omega) (by omega)
      rw [ej] at ih ⊢
      rw [if_neg (show ¬ (gI bs i < gI ps (j : Int) ∧ (j : Int) < (j : Int)) by omega)] at ih
      have ih2 : valG (inn bs ps n i j acc) (sk s) = valG acc (sk s) := by
        rw [ih]
        cases h : valG acc (sk s) <;> rfl
      rw [← e, ih2]
      cases h : valG acc (sk s) with
      | some d =>
        rw [if_neg (by rintro ⟨_, z⟩; cases z), ih2, h]; rfl
      | none =>
        by_cases c : gI bs i < gI ps (j : Int)
        · rw [if_pos ⟨c, rfl⟩, valG_put, if_pos rfl, if_neg (by intro z; cases z), if_pos ⟨c, by omega⟩]
        · rw [if_neg (fun z => c z.1), ih2, h, if_neg (by intro z; cases z), if_neg (fun z => c z.1)]
    · have ne : ((i : Int) - s) % n ≠ j := fun z => e (by rw [← z]; exact (sub_sub_emod h0 h1).symm)
      have key : (if (valG acc (sk s)).isSome = true then valG acc (sk s) else if gI bs i < gI ps (((i : Int) - s) % n) ∧ ((i : Int) - s) % n < (j : Nat) then some (pairD (i, ((i : Int) - s) % n)) else none) = (if (valG acc (sk s)).isSome = true then valG acc (sk s) else if gI bs i < gI ps (((i : Int) - s) % n) ∧ ((i : Int) - s) % n < ((j + 1 : Nat) : Int) then some (pairD (i, ((i : Int) - s) % n)) else none) := by
        congr 1
        by_cases c : gI bs i < gI ps (((i : Int) - s) % n) ∧ ((i : Int) - s) % n < (j : Nat)
        · rw [if_pos c, if_pos ⟨c.1, by omega⟩]
        · rw [if_neg c, if_neg (fun z => c ⟨z.1, by omega⟩)]
      rw [← key, ← ih]
      split
      · rw [valG_put, if_neg (fun z => e (Sum.inl.inj z))]
      · rfl
theorem spD_val {bs ps : List Int} {n : Nat} {s : Int} (h0 : 0 ≤ s) (h1 : s < n) : ∀ {m : Nat}, m ≤ n →
    valG (spD bs ps n m) (sk s) = (fstBad bs ps n m s).map fun (i : Nat) => pairD ((i : Int), ((i : Int) - s) % n)
  | 0, _ => rfl
  | m + 1, hm => by
    have ih := spD_val (bs := bs) (ps := ps) (n := n) h0 h1 (m := m) (by omega)
    have hr := emod_rng (n := n) (by omega) ((m : Int) - s)
    show valG (inn bs ps n m n (spD bs ps n m)) (sk s) = _
    rw [inn_val h0 h1 (Nat.le_refl n), ih]
    unfold fstBad
    rw [List.range_succ, List.find?_append]
    cases h : (List.range m).find? (badAt bs ps n s) with
    | some i => rfl
    | none =>
      rw [if_neg (by intro z; cases z)]
      show _ = ((none : Option Nat).or ([m].find? (badAt bs ps n s))).map _
      by_cases c : gI bs m < gI ps (((m : Int) - s) % n)
      · rw [if_pos ⟨c, hr.2⟩, List.find?_cons_of_pos (by unfold badAt; exact decide_eq_true c)]; rfl
      · rw [if_neg (fun z => c z.1), List.find?_cons_of_neg (by unfold badAt; simpa using c)]; rfl
/-- the keys of a dict of shifts -/
structure ShKeys (n : Nat) (acc : List (Key × D)) (ks : List Int) : Prop where
  eq : acc.map (·.1) = ks.map Sum.inl
  nd : ks.Nodup
  rng : ∀ k ∈ ks, 0 ≤ k ∧ k < n
theorem ShKeys.nil (n : Nat) : ShKeys n [] [] := ⟨rfl, List.nodup_nil, fun k h => by cases h⟩
theorem ShKeys.put {n : Nat} {acc : List (Key × D)} {ks : List Int} {k : Int} {d : D} (h : ShKeys n acc ks) (hk : valG acc (sk k) = none) (h0 : 0 ≤ k) (h1 : k < n) : ShKeys n (putG acc (sk k) d) (ks ++ [k]) := by
  have hn : k ∉ ks := fun z => valG_none.mp hk (by rw [h.eq]; exact List.mem_map.mpr ⟨k, z, rfl⟩)
  refine ⟨by rw [keys_put hk, h.eq, List.map_append]; rfl, ?_, fun j hj => ?_⟩
  · rw [List.nodup_append]
    refine ⟨h.nd, by simp, fun a ha b hb e => ?_⟩
    simp at hb
    subst e; subst hb; exact hn ha
  · rcases List.mem_append.mp hj with hj | hj
    · exact h.rng j hj
    · simp at hj; subst hj; exact ⟨h0, h1⟩
theorem ShKeys.mem {n : Nat} {acc : List (Key × D)} {ks : List Int} (h : ShKeys n acc ks) {k : Int} : k ∈ ks ↔ (valG acc (sk k)).isSome = true := by
  constructor
  · intro hk
    cases e : valG acc (sk k) with
    | some d => rfl
    | none => exact absurd (by rw [h.eq]; exact List.mem_map.mpr ⟨k, hk, rfl⟩) (valG_none.mp e)
  · intro hs
    cases e : valG acc (sk k) with
    | none => rw [e] at hs; cases hs
    | some d =>
      by_cases c : sk k ∈ acc.map (·.1)
      · rw [h.eq] at c
        obtain ⟨j, hj, ej⟩ := List.mem_map.mp c
        cases ej; exact hj
      · rw [valG_none.mpr c] at e; cases e
theorem ShKeys.len {n : Nat} {acc : List (Key × D)} {ks : List Int} (h : ShKeys n acc ks) : acc.length = ks.length := by
  have := congrArg List.length h.eq
  simpa using this
theorem nodup_lt_len : ∀ (n : Nat) (l : List Nat), l.Nodup → (∀ x ∈ l, x < n) → l.length ≤ n
  | 0, [], _, _ => Nat.le_refl _
  | 0, x :: l, _, h => absurd (h x List.mem_cons_self) (Nat.not_lt_zero _)
  | n + 1, l, nd, h => by
    have ih := nodup_lt_len n (l.erase n) (nd.erase n) fun x hx => by
      have h1 := h x (List.mem_of_mem_erase hx)
      have h2 : x ≠ n := (nd.mem_erase_iff.mp hx).1
      omega
    have := List.length_erase (a := n) (l := l)
    split at this <;> omega
theorem ShKeys.le {n : Nat} {acc : List (Key × D)} {ks : List Int} (h : ShKeys n acc ks) : acc.length ≤ n := by
  rw [h.len]
  have h2 : (ks.map Int.toNat).length ≤ n := by
    refine nodup_lt_len n _ ?_ fun x hx => ?_
    · refine List.pairwise_map.mpr (h.nd.imp_of_mem fun {a b} ha hb hab => ?_)
      have := h.rng a ha
      have := h.rng b hb
      omega
    · obtain ⟨k, hk, rfl⟩ := List.mem_map.mp hx
      have := h.rng k hk
      omega
  simpa using h2
theorem inn_keys {bs ps : List Int} {n i : Nat} (hn : 0 < n) {acc : List (Key × D)} (h : ∃ ks, ShKeys n acc ks) : ∀ {j : Nat}, ∃ ks, ShKeys n (inn bs ps n i j acc) ks
  | 0 => h
  | j + 1 => by
    obtain ⟨ks, hk⟩ := inn_keys (bs := bs) (ps := ps) (i := i) hn h (j := j)
    have hr := emod_rng hn ((i : Int) - j)
    show ∃ ks, ShKeys n (stp bs ps n i j _) ks
    unfold stp
    split
    · rename_i c
      exact ⟨_, hk.put c.2 hr.1 hr.2⟩
    · exact ⟨ks, hk⟩
theorem spD_keys {bs ps : List Int} {n : Nat} (hn : 0 < n) : ∀ {m : Nat}, ∃ ks, ShKeys n (spD bs ps n m) ks
  | 0 => ⟨[], ShKeys.nil n⟩
  | m + 1 => inn_keys hn (spD_keys hn (m := m))
/-- the spoiled shifts, rising -/
def spS (bs ps : List Int) (n : Nat) : List Int := ((List.range n).filter fun (s : Nat) => (fstBad bs ps n n (s : Int)).isSome).map fun (s : Nat) => (s : Int)
theorem mem_spS {bs ps : List Int} {n : Nat} (hn : 0 < n) {s : Int} : s ∈ spS bs ps n ↔ (0 ≤ s ∧ s < n) ∧ Bad bs ps n s := by
  unfold spS
  rw [List.mem_map]
  constructor
  · rintro ⟨k, hk, rfl⟩
    rw [List.mem_filter, List.mem_range] at hk
    exact ⟨⟨by omega, by omega⟩, (fst_bad hn).mp hk.2⟩
  · rintro ⟨⟨h0, h1⟩, hb⟩
    refine ⟨s.toNat, ?_, by omega⟩
    rw [List.mem_filter, List.mem_range]
    have e : ((s.toNat : Nat) : Int) = s := by omega
    exact ⟨by omega, by rw [e]; exact (fst_bad hn).mpr hb⟩
theorem spS_sorted (bs ps : List Int) (n : Nat) : (spS bs ps n).Pairwise (· < ·) := by
  unfold spS
  refine List.pairwise_map.mpr ?_
  exact (List.pairwise_lt_range (n := n)).sublist List.filter_sublist |>.imp fun {a b} h => by omega
theorem spS_nodup (bs ps : List Int) (n : Nat) : (spS bs ps n).Nodup := (spS_sorted bs ps n).imp fun {a b} h => by omega
/-- a list of the spoiled shifts of two wheels, in any order, sorted -/
theorem sort_spS {bs ps : List Int} {n : Nat} (hn : 0 < n) {l : List Int} (nd : l.Nodup) (h : ∀ s, s ∈ l ↔ (0 ≤ s ∧ s < n) ∧ Bad bs ps n s) : sortI l = spS bs ps n := by
  refine (sortI_unique ?_ ((spS_sorted bs ps n).imp fun {a b} z => by omega)).symm
  refine (List.perm_ext_iff_of_nodup (spS_nodup bs ps n) nd).mpr fun s => ?_
  rw [mem_spS hn, h]
theorem keys_bad {bs ps : List Int} {n : Nat} (hn : 0 < n) {ks : List Int} (h : ShKeys n (spD bs ps n n) ks) (s : Int) : s ∈ ks ↔ (0 ≤ s ∧ s < n) ∧ Bad bs ps n s := by
  constructor
  · intro hs
    have hr := h.rng s hs
    refine ⟨hr, ?_⟩
    have := h.mem.mp hs
    rw [spD_val hr.1 hr.2 (Nat.le_refl n), Option.isSome_map] at this
    exact (fst_bad hn).mp this
  · rintro ⟨hr, hb⟩
    refine h.mem.mpr ?_
    rw [spD_val hr.1 hr.2 (Nat.le_refl n), Option.isSome_map]
    exact (fst_bad hn).mpr hb
/-! ### wheels turned, mirrored, changed -/
theorem gI_at' {w : List Int} {k : Int} (h0 : 0 ≤ k) (h1 : k < w.length) : w[k.toNat]? = some (gI w k) := by
  unfold gI
  have h : k.toNat < w.length := by omega
  rw [List.getD_eq_getElem?_getD, List.getElem?_eq_getElem h]; rfl
theorem gI_eq {w : List Int} {k : Int} {x : Int} (h : w[k.toNat]? = some x) : gI w k = x := by
  unfold gI
  rw [List.getD_eq_getElem?_getD, h]; rfl
/-- turned by m places -/
def tur (w : List Int) (m : Int) : List Int := w.drop (w.length - m.toNat) ++ w.take (w.length - m.toNat)
theorem tur_len {w : List Int} {m : Int} : (tur w m).length = w.length := by unfold tur; rw [List.length_append, List.length_drop, List.length_take]; omega
theorem tur_cyc {w : List Int} {n : Nat} (hw : w.length = n) (hn : 0 < n) {m : Int} (h0 : 0 ≤ m) (h1 : m < n) (k : Int) : cyc (tur w m) n k = cyc w n (k - m) := by
  obtain ⟨r0, r1⟩ := emod_rng hn k
  unfold cyc
  refine gI_eq ?_
  unfold tur
  rw [hw]
  by_cases c : k % n < m
  · have e : (k - m) % n = k % n - m + n := by
      rw [show (k - m) % (n : Int) = (k % n - m + n) % n from emod_of (k / n - 1) (by rw [Int.emod_def, Int.mul_sub]; omega)]
      exact emod_id (by omega) (by omega)
    rw [List.getElem?_append_left (by rw [List.length_drop, hw]; omega), List.getElem?_drop, e]
    have := gI_at' (w := w) (k := k % n - m + n) (by omega) (by omega)
    rw [← this]
    congr 1
    omega
  · have e : (k - m) % n = k % n - m := by
      rw [show (k - m) % (n : Int) = (k % n - m) % n from emod_of (k / n) (by rw [Int.emod_def]; omega)]
      exact emod_id (by omega) (by omega)
    rw [List.getElem?_append_right (by rw [List.length_drop, hw]; omega), List.length_drop, hw, List.getElem?_take, if_pos (by omega), e]
    have := gI_at' (w := w) (k := k % n - m) (by omega) (by omega)
    rw [← this]
    congr 1
    omega
theorem rev_cyc {w : List Int} {n : Nat} (hw : w.length = n) (hn : 0 < n) (k : Int) : cyc w.reverse n k = cyc w n (-1 - k) := by
  obtain ⟨r0, r1⟩ := emod_rng hn k
  unfold cyc
  refine gI_eq ?_
  have e : (-1 - k) % n = n - 1 - k % n := by
    rw [show (-1 - k) % (n : Int) = (n - 1 - k % n) % n from emod_of (-(k / n) - 1) (by rw [Int.emod_def, Int.mul_sub, Int.mul_neg]; omega)]
    exact emod_id (by omega) (by omega)
  rw [List.getElem?_reverse (by omega), e]
  have := gI_at' (w := w) (k := n - 1 - k % n) (by omega) (by omega)
  rw [← this]
  congr 1
  omega
theorem map_cyc {w : List Int} {n : Nat} (hw : w.length = n) (hn : 0 < n) (f : Int → Int) (k : Int) : cyc (w.map f) n k = f (cyc w n k) := by
  obtain ⟨r0, r1⟩ := emod_rng hn k
  unfold cyc
  refine gI_eq ?_
  rw [List.getElem?_map, gI_at' r0 (by omega)]; rfl
end DL
set_option Elab.async false
set_option linter.all false
set_option maxRecDepth 100000
set_option maxHeartbeats 4000000
namespace DL
open PySem L2
/-- the law's dict of spoiled shifts -/
def lwD (bs ps : List Int) (n : Nat) : Nat → List (Key × D)
  | 0 => []
  | s + 1 => match fstBad bs ps n n (s : Nat) with
    | none => lwD bs ps n s
    | some i => putG (lwD bs ps n s) (sk (s : Nat)) (pairD ((i : Int), ((i : Int) - (s : Nat)) % n))
theorem lwD_val {bs ps : List Int} {n : Nat} : ∀ {m : Nat} {s : Int}, valG (lwD bs ps n m) (sk s) = if 0 ≤ s ∧ s < m then (fstBad bs ps n n s).map fun (i : Nat) => pairD ((i : Int), ((i : Int) - s) % n) else none
  | 0, s => by
    rw [if_neg (by omega)]; rfl
  | m + 1, s => by
    have ih := lwD_val (bs := bs) (ps := ps) (n := n) (m := m) (s := s)
    show valG (match fstBad bs ps n n (m : Nat) with
      | none => lwD bs ps n m
      | some i => putG (lwD bs ps n m) (sk (m : Nat)) (pairD ((i : Int), ((i : Int) - (m : Nat)) % n))) (sk s) = _
    by_cases e : s = (m : Nat)
    · subst e
      rw [if_pos (by omega)]
      rw [if_neg (by omega)] at ih
      cases h : fstBad bs ps n n (m : Nat) with
      | none => exact ih
      | some i =>
        show valG (putG _ _ _) _ = _
        rw [valG_put, if_pos rfl]; rfl
    · have e2 : ¬ sk s = sk (m : Nat) := fun z => e (Sum.inl.inj z)
      have c : (0 ≤ s ∧ s < ((m + 1 : Nat) : Int)) ↔ (0 ≤ s ∧ s < (m : Nat)) := by omega
      have key : valG (match fstBad bs ps n n (m : Nat) with
        | none => lwD bs ps n m
        | some i => putG (lwD bs ps n m) (sk (m : Nat)) (pairD ((i : Int), ((i : Int) - (m : Nat)) % n))) (sk s) = valG (lwD bs ps n m) (sk s) := by
        cases h : fstBad bs ps n n (m : Nat) with
        | none => rfl
        | some i =>
          show valG (putG _ _ _) _ = _
          rw [valG_put, if_neg e2]
      rw [key, ih]
      by_cases c2 : 0 ≤ s ∧ s < (m : Nat)
      · rw [if_pos c2, if_pos (c.mpr c2)]
      · rw [if_neg c2, if_neg (fun z => c2 (c.mp z))]
theorem lwD_keys {bs ps : List Int} {n : Nat} : ∀ {m : Nat}, m ≤ n → ∃ ks, ShKeys n (lwD bs ps n m) ks
  | 0, _ => ⟨[], ShKeys.nil n⟩
  | m + 1, hm => by
    obtain ⟨ks, hk⟩ := lwD_keys (bs := bs) (ps := ps) (n := n) (m := m) (by omega)
    show ∃ ks, ShKeys n (match fstBad bs ps n n (m : Nat) with
      | none => lwD bs ps n m
      | some i => putG (lwD bs ps n m) (sk (m : Nat)) (pairD ((i : Int), ((i : Int) - (m : Nat)) % n))) ks
    cases h : fstBad bs ps n n (m : Nat) with
    | none => exact ⟨ks, hk⟩
    | some i => exact ⟨_, hk.put (by rw [lwD_val, if_neg (by omega)]) (by omega) (by omega)⟩
/-- the least shift that goes -/
def frs (bs ps : List Int) (n : Nat) : D := match (List.range n).find? fun (s : Nat) => !(fstBad bs ps n n (s : Nat)).isSome with
  | some s => .int (s : Nat)
  | none => .non
theorem frs_some {bs ps : List Int} {n i : Nat} (hi : i < n) (h : fstBad bs ps n n (i : Nat) = none) (hb : ∀ s : Nat, s < i → (fstBad bs ps n n (s : Nat)).isSome = true) : frs bs ps n = .int (i : Nat) := by
  unfold frs
  have e : (List.range n).find? (fun (s : Nat) => !(fstBad bs ps n n (s : Nat)).isSome) = some i := by
    rw [List.find?_range_eq_some]
    exact ⟨by rw [h]; rfl, List.mem_range.mpr hi, fun j hj => by rw [hb j hj]; rfl⟩
  rw [e]
theorem frs_none {bs ps : List Int} {n : Nat} (hb : ∀ s : Nat, s < n → (fstBad bs ps n n (s : Nat)).isSome = true) : frs bs ps n = .non := by
  unfold frs
  have e : (List.range n).find? (fun (s : Nat) => !(fstBad bs ps n n (s : Nat)).isSome) = none := by
    rw [List.find?_eq_none]
    intro s hs
    rw [hb s (List.mem_range.mp hs)]; decide
  rw [e]
theorem filter_range_cons {n i : Nat} {p : Nat → Bool} {r : List Nat} (h : (List.range n).filter p = i :: r) : (List.range n).find? p = some i ∧ ∀ q ∈ r, i < q := by
  refine ⟨?_, fun q hq => ?_⟩
  · rw [← List.head?_filter, h]; rfl
  · have := (List.pairwise_lt_range (n := n)).sublist (List.filter_sublist (p := p))
    rw [h] at this
    exact (List.pairwise_cons.mp this).1 q hq
theorem filter_range_nil {n : Nat} {p : Nat → Bool} (h : (List.range n).filter p = []) : (List.range n).find? p = none := by
  rw [← List.head?_filter, h]; rfl
theorem Plain.frs (bs ps : List Int) (n : Nat) : Plain 1 (frs bs ps n) := by
  unfold DL.frs
  split <;> trivial
end DL
set_option Elab.async false
set_option linter.all false
set_option maxRecDepth 100000
set_option maxHeartbeats 2000000
namespace DL
open PySem L2
/-! ### the two dicts hold the same -/
theorem valG_at {α : Type} {kvs : List (Key × α)} (nd : (kvs.map (·.1)).Nodup) {i : Nat} {k : Key} {d : α} (h : kvs[i]? = some (k, d)) : valG kvs k = some d := by
  induction kvs generalizing i with
  | nil => simp at h
  | cons p r ih =>
    rw [List.map_cons, List.nodup_cons] at nd
    cases i with
    | zero =>
      have h : p = (k, d) := by simpa using h
      subst h
      unfold valG; rw [List.find?_cons_of_pos (by simp)]; rfl
    | succ i =>
      have h : r[i]? = some (k, d) := by simpa using h
      have hk : k ∈ r.map (·.1) := List.mem_map.mpr ⟨_, List.mem_of_getElem? h, rfl⟩
      have e : p.1 ≠ k := fun z => nd.1 (z ▸ hk)
      have := ih nd.2 h
      unfold valG at this ⊢
      rw [List.find?_cons_of_neg (by simpa using e)]; exact this
theorem ShKeys.keyd {n : Nat} {acc : List (Key × D)} {ks : List Int} (h : ShKeys n acc ks) : (acc.map (·.1)).Nodup := by
  rw [h.eq]
  refine List.Pairwise.map _ (fun a b hab z => hab ?_) h.nd
  injection z
theorem len_same {bs ps : List Int} {n : Nat} (hn : 0 < n) : (spD bs ps n n).length = (lwD bs ps n n).length := by
  obtain ⟨ks, hk⟩ := spD_keys (bs := bs) (ps := ps) hn (m := n)
  obtain ⟨js, hj⟩ := lwD_keys (bs := bs) (ps := ps) (n := n) (m := n) (Nat.le_refl _)
  rw [hk.len, hj.len]
  refine ((List.perm_ext_iff_of_nodup hk.nd hj.nd).mpr fun s => ?_).length_eq
  rw [hk.mem, hj.mem]
  by_cases hr : 0 ≤ s ∧ s < n
  · rw [spD_val hr.1 hr.2 (Nat.le_refl _), lwD_val, if_pos hr]
  · rw [← hk.mem, ← hj.mem]
    constructor
    · intro z; exact absurd (hk.rng s z) hr
    · intro z; exact absurd (hj.rng s z) hr
theorem due_same {bs ps : List Int} {n : Nat} (hn : 0 < n) {i : Nat} {k : Key} {d : D} (h : (lwD bs ps n n)[i]? = some (k, d)) : valG (lwD bs ps n n) k = some d ∧ valG (spD bs ps n n) k = some d ∧ Plain 4 d := by
  obtain ⟨js, hj⟩ := lwD_keys (bs := bs) (ps := ps) (n := n) (m := n) (Nat.le_refl _)
  have h1 := valG_at hj.keyd h
  have hk : k ∈ (lwD bs ps n n).map (·.1) := List.mem_map.mpr ⟨_, List.mem_of_getElem? h, rfl⟩
  rw [hj.eq, List.mem_map] at hk
  obtain ⟨s, hs, rfl⟩ := hk
  obtain ⟨r0, r1⟩ := hj.rng s hs
  have h2 := lwD_val (bs := bs) (ps := ps) (n := n) (m := n) (s := s)
  rw [if_pos ⟨r0, r1⟩] at h2
  have h3 : (fstBad bs ps n n s).map (fun (i : Nat) => pairD ((i : Int), ((i : Int) - s) % n)) = some d := h2.symm.trans h1
  refine ⟨h1, (spD_val r0 r1 (Nat.le_refl _)).trans h3, ?_⟩
  cases c : fstBad bs ps n n s with
  | none => rw [c] at h3; cases h3
  | some q => rw [c] at h3; cases h3; exact Plain.pair 2 _
theorem int_same {bs ps : List Int} {n : Nat} (hn : 0 < n) {i : Nat} {k : Key} {d : D} (h : (spD bs ps n n)[i]? = some (k, d)) : ∃ m : Int, k = Sum.inl m := by
  obtain ⟨ks, hk⟩ := spD_keys (bs := bs) (ps := ps) hn (m := n)
  have hm : k ∈ (spD bs ps n n).map (·.1) := List.mem_map.mpr ⟨_, List.mem_of_getElem? h, rfl⟩
  rw [hk.eq, List.mem_map] at hm
  obtain ⟨s, _, rfl⟩ := hm
  exact ⟨s, rfl⟩
/-! ### the shifts of changed wheels -/
theorem spS_congr {b p b' p' : List Int} {n : Nat} (hn : 0 < n) (h : ∀ s : Int, Bad b p n s ↔ Bad b' p' n s) : spS b p n = spS b' p' n := by
  unfold spS
  congr 1
  refine List.filter_congr fun s hs => ?_
  have := (fst_bad (bs := b) (ps := p) hn (s := (s : Int))).trans ((h s).trans (fst_bad (bs := b') (ps := p') hn (s := (s : Int))).symm)
  cases e1 : (fstBad b p n n (s : Int)).isSome <;> cases e2 : (fstBad b' p' n n (s : Int)).isSome <;> simp [e1, e2] at this ⊢
theorem spS_map {b p b' p' : List Int} {n : Nat} (hn : 0 < n) (f g : Int → Int) (hf : ∀ s : Int, 0 ≤ s → s < n → (0 ≤ f s ∧ f s < n) ∧ g (f s) = s) (hg : ∀ s : Int, 0 ≤ s → s < n → (0 ≤ g s ∧ g s < n) ∧ f (g s) = s)
    (h : ∀ s : Int, Bad b p n s ↔ Bad b' p' n (f s)) : sortI ((spS b p n).map f) = spS b' p' n := by
  refine sort_spS hn ?_ fun s => ?_
  · rw [List.nodup_iff_pairwise_ne, List.pairwise_map]
    refine List.Pairwise.imp_of_mem ?_ (spS_nodup b p n)
    intro x y hx hy hne e
    obtain ⟨⟨x0, x1⟩, _⟩ := (mem_spS hn).mp hx
    obtain ⟨⟨y0, y1⟩, _⟩ := (mem_spS hn).mp hy
    have e1 := (hf x x0 x1).2
    have e2 := (hf y y0 y1).2
    rw [e, e2] at e1
    exact hne e1.symm
  · rw [List.mem_map]
    constructor
    · rintro ⟨t, ht, rfl⟩
      obtain ⟨⟨t0, t1⟩, hb⟩ := (mem_spS hn).mp ht
      exact ⟨(hf t t0 t1).1, (h t).mp hb⟩
    · rintro ⟨⟨s0, s1⟩, hb⟩
      obtain ⟨⟨g0, g1⟩, ge⟩ := hg s s0 s1
      exact ⟨g s, (mem_spS hn).mpr ⟨⟨g0, g1⟩, (h (g s)).mpr (by rw [ge]; exact hb)⟩, ge⟩
theorem spS_turn2 {b p : List Int} {n : Nat} {m : Int} (hb : b.length = n) (hp : p.length = n) (hn : 0 < n) (h0 : 0 ≤ m) (h1 : m < n) : spS (tur b m) (tur p m) n = spS b p n := by
  refine spS_congr hn fun s => ⟨fun ⟨i, h⟩ => ⟨i - m, ?_⟩, fun ⟨i, h⟩ => ⟨i + m, ?_⟩⟩
  · rw [tur_cyc hb hn h0 h1, tur_cyc hp hn h0 h1] at h
    rw [show i - m - s = i - s - m by omega]; exact h
  · rw [tur_cyc hb hn h0 h1, tur_cyc hp hn h0 h1, show i + m - m = i by omega, show i + m - s - m = i - s by omega]; exact h
theorem emod_back {n : Nat} (hn : 0 < n) {s c d : Int} (h0 : 0 ≤ s) (h1 : s < n) (k : Int) (e : c + d = n * k) : ((s + c) % n + d) % n = s := by
  rw [Int.emod_add_emod]
  rw [show (s + c + d) % (n : Int) = s % n from emod_of k (by omega)]
  exact emod_id h0 h1
theorem spS_turnP {b p : List Int} {n : Nat} {m : Int} (hb : b.length = n) (hp : p.length = n) (hn : 0 < n) (h0 : 0 ≤ m) (h1 : m < n) : sortI ((spS b p n).map fun s => (s + n - m) % n) = spS b (tur p m) n := by
  refine spS_map hn _ (fun s => (s + m) % n) (fun s s0 s1 => ⟨emod_rng hn _, ?_⟩) (fun s s0 s1 => ⟨emod_rng hn _, ?_⟩) fun s => ?_
  · show ((s + n - m) % n + m) % n = s
    rw [show s + (n : Int) - m = s + (n - m) by omega]
    exact emod_back hn s0 s1 1 (by omega)
  · show ((s + m) % n + n - m) % n = s
    rw [show (s + m) % (n : Int) + n - m = (s + m) % n + (n - m) by omega]
    exact emod_back hn s0 s1 1 (by omega)
  · rw [Bad.emod, Bad.mod (s := s + n - m) (t := s - m) 1 (by omega)]
    refine ⟨fun ⟨i, h⟩ => ⟨i, ?_⟩, fun ⟨i, h⟩ => ⟨i, ?_⟩⟩
    · rw [tur_cyc hp hn h0 h1, show i - (s - m) - m = i - s by omega]; exact h
    · rw [tur_cyc hp hn h0 h1, show i - (s - m) - m = i - s by omega] at h; exact h
theorem spS_turnB {b p : List Int} {n : Nat} {m : Int} (hb : b.length = n) (hp : p.length = n) (hn : 0 < n) (h0 : 0 ≤ m) (h1 : m < n) : sortI ((spS b p n).map fun s => (s + m) % n) = spS (tur b m) p n := by
  refine spS_map hn _ (fun s => (s + (n - m)) % n) (fun s s0 s1 => ⟨emod_rng hn _, ?_⟩) (fun s s0 s1 => ⟨emod_rng hn _, ?_⟩) fun s => ?_
  · exact emod_back hn s0 s1 1 (by omega)
  · exact emod_back hn s0 s1 1 (by omega)
  · rw [Bad.emod]
    refine ⟨fun ⟨i, h⟩ => ⟨i + m, ?_⟩, fun ⟨i, h⟩ => ⟨i - m, ?_⟩⟩
    · rw [tur_cyc hb hn h0 h1, show i + m - m = i by omega, show i + m - (s + m) = i - s by omega]; exact h
    · rw [tur_cyc hb hn h0 h1] at h
      rw [show i - m - s = i - (s + m) by omega]; exact h
theorem opp_opp {n : Nat} (hn : 0 < n) {s : Int} (h0 : 0 ≤ s) (h1 : s < n) : (n - (n - s) % n) % n = s := by
  rw [show ((n : Int) - (n - s) % n) % n = s % n from emod_of ((n - s) / n) (by rw [Int.emod_def]; omega)]
  exact emod_id h0 h1
theorem spS_opp {b p b' p' : List Int} {n : Nat} (hn : 0 < n) (h : ∀ s : Int, Bad b p n s ↔ Bad b' p' n (-s)) : sortI ((spS b p n).map fun s => (n - s) % n) = spS b' p' n := by
  refine spS_map hn _ (fun s => (n - s) % n) (fun s s0 s1 => ⟨emod_rng hn _, opp_opp hn s0 s1⟩) (fun s s0 s1 => ⟨emod_rng hn _, opp_opp hn s0 s1⟩) fun s => ?_
  rw [Bad.emod, Bad.mod (s := n - s) (t := -s) 1 (by omega)]; exact h s
theorem spS_rev {b p : List Int} {n : Nat} (hb : b.length = n) (hp : p.length = n) (hn : 0 < n) : sortI ((spS b p n).map fun s => (n - s) % n) = spS b.reverse p.reverse n := by
  refine spS_opp hn fun s => ⟨fun ⟨i, h⟩ => ⟨-1 - i, ?_⟩, fun ⟨i, h⟩ => ⟨-1 - i, ?_⟩⟩
  · rw [rev_cyc hb hn, rev_cyc hp hn, show -1 - (-1 - i) = i by omega, show -1 - (-1 - i - -s) = i - s by omega]; exact h
  · rw [rev_cyc hb hn, rev_cyc hp hn] at h
    rw [show -1 - i - s = -1 - (i - -s) by omega]; exact h
theorem spS_swap {b p : List Int} {n : Nat} (t : Int) (hb : b.length = n) (hp : p.length = n) (hn : 0 < n) : sortI ((spS b p n).map fun s => (n - s) % n) = spS (p.map fun x => t - x) (b.map fun x => t - x) n := by
  refine spS_opp hn fun s => ⟨fun ⟨i, h⟩ => ⟨i - s, ?_⟩, fun ⟨i, h⟩ => ⟨i + s, ?_⟩⟩
  · rw [map_cyc hp hn, map_cyc hb hn, show i - s - -s = i by omega]; omega
  · rw [map_cyc hp hn, map_cyc hb hn] at h
    rw [show i - -s = i + s by omega] at h
    rw [show i + s - s = i by omega]; omega
theorem spS_one {b p : List Int} {n : Nat} (hb : b.length = n) (hp : p.length = n) (hn : 0 < n) : spS (b.map fun x => x + 1) (p.map fun x => x + 1) n = spS b p n := by
  refine spS_congr hn fun s => ⟨fun ⟨i, h⟩ => ⟨i, ?_⟩, fun ⟨i, h⟩ => ⟨i, ?_⟩⟩
  · rw [map_cyc hp hn, map_cyc hb hn] at h; omega
  · rw [map_cyc hp hn, map_cyc hb hn]; omega
/-! ### one bore larger -/
theorem set_gI {b : List Int} {at_ : Nat} {x k : Int} (h0 : 0 ≤ k) (ha : at_ < b.length) : gI (b.set at_ x) k = if k = at_ then x else gI b k := by
  unfold gI
  rw [List.getD_eq_getElem?_getD, List.getD_eq_getElem?_getD]
  by_cases e : k = at_
  · rw [if_pos e, e, Int.toNat_natCast, List.getElem?_set_self ha]; rfl
  · rw [if_neg e, List.getElem?_set_ne (by omega)]
theorem lrg_bad {b p : List Int} {n at_ : Nat} {x s : Int} (hb : b.length = n) (hn : 0 < n) (ha : at_ < n) (hx : gI b at_ ≤ x) (h : Bad (b.set at_ x) p n s) : Bad b p n s := by
  obtain ⟨i, h⟩ := h
  refine ⟨i, ?_⟩
  have hr := emod_rng hn i
  unfold cyc at h ⊢
  rw [set_gI hr.1 (by omega)] at h
  split at h
  · rename_i e
    rw [e]; omega
  · exact h
theorem lrg_freed {b p : List Int} {n at_ : Nat} {x s : Int} (hb : b.length = n) (hn : 0 < n) (ha : at_ < n) (h : Bad b p n s) (h2 : ¬ Bad (b.set at_ x) p n s) : gI b at_ < gI p ((at_ - s) % n) := by
  obtain ⟨i, h⟩ := h
  have hr := emod_rng hn i
  by_cases e : i % n = at_
  · have h3 : cyc p n (i - s) = cyc p n (at_ - s) := by
      refine cyc_of (i / n) ?_
      have := emod_is i n
      rw [e] at this
      rw [this]
      rw [Int.mul_neg]; omega
    rw [h3] at h
    unfold cyc at h
    rw [e] at h
    exact h
  · exact absurd ⟨i, by unfold cyc at h ⊢; rw [set_gI hr.1 (by omega), if_neg e]; exact h⟩ h2
theorem lrg_new {b p : List Int} {n k : Nat} {x : Int} (hb : b.length = n) (hn : 0 < n) (ha : k < n) (hx : gI b k ≤ x) : (spS (b.set k x) p n).filter (fun s => !decide (s ∈ spS b p n)) = [] := by
  rw [List.filter_eq_nil_iff]
  intro s hs z
  obtain ⟨hr, hbad⟩ := (mem_spS hn).mp hs
  have : s ∈ spS b p n := (mem_spS hn).mpr ⟨hr, lrg_bad hb hn ha hx hbad⟩
  rw [decide_eq_true this] at z
  cases z
def lrgOwn (b p : List Int) (n k : Nat) : List Int := ((List.range n).filter fun (i : Nat) => decide (gI b (k : Nat) < gI p (i : Nat))).map fun (i : Nat) => ((k : Int) - i) % n
theorem lrg_own {b p : List Int} {n k : Nat} {x : Int} (hb : b.length = n) (hn : 0 < n) (ha : k < n) : (((spS b p n).filter fun s => !decide (s ∈ spS (b.set k x) p n)).map (fun s => s)).filter (fun s => !decide (s ∈ lrgOwn b p n k)) = [] := by
  rw [List.filter_eq_nil_iff]
  intro s hs z
  rw [List.map_id'] at hs
  obtain ⟨h1, h2⟩ := List.mem_filter.mp hs
  obtain ⟨hr, hbad⟩ := (mem_spS hn).mp h1
  have h3 : ¬ Bad (b.set k x) p n s := fun y => by
    rw [decide_eq_true ((mem_spS hn).mpr ⟨hr, y⟩)] at h2
    cases h2
  have h4 := lrg_freed hb hn ha hbad h3
  have r := emod_rng hn ((k : Int) - s)
  have e : (((((k : Int) - s) % n).toNat : Nat) : Int) = ((k : Int) - s) % n := Int.toNat_of_nonneg r.1
  have : s ∈ lrgOwn b p n k := List.mem_map.mpr ⟨(((k : Int) - s) % n).toNat, List.mem_filter.mpr ⟨List.mem_range.mpr (by omega), by rw [e]; exact decide_eq_true h4⟩, by rw [e]; exact sub_sub_emod hr.1 hr.2⟩
  rw [decide_eq_true this] at z
  cases z
theorem Plain.frs4 (bs ps : List Int) (n : Nat) : Plain 4 (DL.frs bs ps n) := by
  unfold DL.frs
  split <;> trivial
theorem set_same {w : List Int} {i j : Nat} (hi : i < w.length) (hj : j < w.length) (h : gI w j = gI w i) : (w.set i (gI w j)).set j (gI w i) = w := by
  refine List.ext_getElem? fun k => ?_
  have e1 : w[i]? = some (gI w i) := gI_at' (k := (i : Int)) (by omega) (by omega)
  have e2 : w[j]? = some (gI w j) := gI_at' (k := (j : Int)) (by omega) (by omega)
  by_cases hk : j = k
  · subst hk
    rw [List.getElem?_set_self (by rw [List.length_set]; exact hj), e2, h]
  · rw [List.getElem?_set_ne hk]
    by_cases hk2 : i = k
    · subst hk2
      rw [List.getElem?_set_self hi, e1, h]
    · rw [List.getElem?_set_ne hk2]
theorem gI_mem {ns : List Int} {k : Int} (h0 : 0 ≤ k) (h1 : k < ns.length) : gI ns k ∈ ns := List.mem_of_getElem? (gI_at' h0 h1)
theorem tur_cut {w : List Int} {m : Int} (h0 : 0 ≤ m) (h1 : m ≤ w.length) : cutD w (some (w.length - m)) none ++ cutD w none (some (w.length - m)) = tur w m := by
  unfold cutD tur
  have e : ((w.length : Int) - m).toNat = w.length - m.toNat := by omega
  have e1 : HT.sIx w.length 0 (some ((w.length : Int) - m)) = w.length - m.toNat := by
    show (if (w.length : Int) - m < 0 then _ else min ((w.length : Int) - m).toNat w.length) = _
    rw [if_neg (by omega)]; omega
  have e2 : HT.sIx w.length w.length (some ((w.length : Int) - m)) = w.length - m.toNat := by
    show (if (w.length : Int) - m < 0 then _ else min ((w.length : Int) - m).toNat w.length) = _
    rw [if_neg (by omega)]; omega
  rw [e1, e2]
  show (w.drop _).take (w.length - _) ++ (w.drop 0).take (_ - 0) = _
  rw [List.take_of_length_le (by rw [List.length_drop]; exact Nat.le_refl _), List.drop_zero, Nat.sub_zero]
end DL
set_option Elab.async false
set_option linter.all false
set_option maxRecDepth 100000
set_option maxHeartbeats 4000000
namespace K84
open PySem L2 DL
def topS (i : Nat) : Stmt := PySem.Challenge.pw_nextpair_k84_whole_wheels_turned_and_mir.main.body.getD i (.Pass ⟨0, 0, 0, 0⟩)
abbrev s_check : Stmt := topS 6
abbrev N_check : List Str := ["what", "number"]
theorem sc_check : FnScope N_check ["what", "number"] (defScope s_check) := ⟨rfl, rfl, rfl, by decide +kernel, rfl, by decide +kernel, by decide +kernel⟩
abbrev s_spoiled : Stmt := topS 8
abbrev N_spoiled : List Str := ["bores", "pins", "around", "found", "bore_at", "pin_at", "shift"]
theorem sc_spoiled : FnScope N_spoiled ["bores", "pins"] (defScope s_spoiled) := ⟨rfl, rfl, rfl, by decide +kernel, rfl, by decide +kernel, by decide +kernel⟩
abbrev s_first_turn : Stmt := topS 9
abbrev N_first_turn : List Str := ["bores", "pins", "found", "shift"]
theorem sc_first_turn : FnScope N_first_turn ["bores", "pins"] (defScope s_first_turn) := ⟨rfl, rfl, rfl, by decide +kernel, rfl, by decide +kernel, by decide +kernel⟩
abbrev s__law_g_spoiled : Stmt := topS 11
abbrev N__law_g_spoiled : List Str := ["bores", "pins", "n", "found", "shift", "bad", "at"]
theorem sc__law_g_spoiled : FnScope N__law_g_spoiled ["bores", "pins"] (defScope s__law_g_spoiled) := ⟨rfl, rfl, rfl, by decide +kernel, rfl, by decide +kernel, by decide +kernel⟩
abbrev s__law_g_same_dict : Stmt := topS 12
abbrev N__law_g_same_dict : List Str := ["answer", "due", "key"]
theorem sc__law_g_same_dict : FnScope N__law_g_same_dict ["answer", "due"] (defScope s__law_g_same_dict) := ⟨rfl, rfl, rfl, by decide +kernel, rfl, by decide +kernel, by decide +kernel⟩
abbrev s__law_g_first : Stmt := topS 13
abbrev N__law_g_first : List Str := ["bores", "pins", "bad", "good", "shift"]
theorem sc__law_g_first : FnScope N__law_g_first ["bores", "pins"] (defScope s__law_g_first) := ⟨rfl, rfl, rfl, by decide +kernel, rfl, by decide +kernel, by decide +kernel⟩
abbrev s__law_purse : Stmt := topS 14
abbrev N__law_purse : List Str := ["script", "at", "cell", "one", "size"]
theorem sc__law_purse : FnScope N__law_purse ["script", "at"] (defScope s__law_purse) := ⟨rfl, rfl, rfl, by decide +kernel, rfl, by decide +kernel, by decide +kernel⟩
abbrev s__law_draw : Stmt := topS 15
abbrev N__law_draw : List Str := ["purse", "many", "found"]
theorem sc__law_draw : FnScope N__law_draw ["purse", "many"] (defScope s__law_draw) := ⟨rfl, rfl, rfl, by decide +kernel, rfl, by decide +kernel, by decide +kernel⟩
abbrev s__law_matches : Stmt := topS 16
abbrev N__law_matches : List Str := ["answer", "due", "at"]
theorem sc__law_matches : FnScope N__law_matches ["answer", "due"] (defScope s__law_matches) := ⟨rfl, rfl, rfl, by decide +kernel, rfl, by decide +kernel, by decide +kernel⟩
abbrev s__law_k84_wheels : Stmt := topS 17
abbrev N__law_k84_wheels : List Str := ["purse", "top", "n", "bores", "turn", "shift", "pins", "at"]
theorem sc__law_k84_wheels : FnScope N__law_k84_wheels ["purse", "top", "n"] (defScope s__law_k84_wheels) := ⟨rfl, rfl, rfl, by decide +kernel, rfl, by decide +kernel, by decide +kernel⟩
abbrev s__law_k84_shifts : Stmt := topS 18
abbrev N__law_k84_shifts : List Str := ["bores", "pins", "told"]
theorem sc__law_k84_shifts : FnScope N__law_k84_shifts ["bores", "pins"] (defScope s__law_k84_shifts) := ⟨rfl, rfl, rfl, by decide +kernel, rfl, by decide +kernel, by decide +kernel⟩
abbrev s__law_k84_turned : Stmt := topS 19
abbrev N__law_k84_turned : List Str := ["wheel", "many"]
theorem sc__law_k84_turned : FnScope N__law_k84_turned ["wheel", "many"] (defScope s__law_k84_turned) := ⟨rfl, rfl, rfl, by decide +kernel, rfl, by decide +kernel, by decide +kernel⟩
abbrev s__law_k84_exchanged : Stmt := topS 20
abbrev N__law_k84_exchanged : List Str := ["purse", "wheel", "at", "alike", "place", "other", "moved"]
theorem sc__law_k84_exchanged : FnScope N__law_k84_exchanged ["purse", "wheel"] (defScope s__law_k84_exchanged) := ⟨rfl, rfl, rfl, by decide +kernel, rfl, by decide +kernel, by decide +kernel⟩
abbrev s__law_k84_right : Stmt := topS 21
abbrev N__law_k84_right : List Str := ["purse", "top", "n", "bores", "pins", "base", "many", "opposite", "shift", "bore", "pin", "at", "larger", "fewer", "own", "place", "freed", "new"]
theorem sc__law_k84_right : FnScope N__law_k84_right ["purse", "top", "n"] (defScope s__law_k84_right) := ⟨rfl, rfl, rfl, by decide +kernel, rfl, by decide +kernel, by decide +kernel⟩
abbrev s_law : Stmt := topS 22
abbrev N_law : List Str := ["script", "purse", "n"]
theorem sc_law : FnScope N_law ["script"] (defScope s_law) := ⟨rfl, rfl, rfl, by decide +kernel, rfl, by decide +kernel, by decide +kernel⟩
structure Ad where
  a_check : Addr
  a_spoiled : Addr
  a_first_turn : Addr
  a__law_g_spoiled : Addr
  a__law_g_same_dict : Addr
  a__law_g_first : Addr
  a__law_purse : Addr
  a__law_draw : Addr
  a__law_matches : Addr
  a__law_k84_wheels : Addr
  a__law_k84_shifts : Addr
  a__law_k84_turned : Addr
  a__law_k84_exchanged : Addr
  a__law_k84_right : Addr
  a_law : Addr
  c_LIMITS : Addr
structure Fd where
  d_check : FuncData
  d_spoiled : FuncData
  d_first_turn : FuncData
  d__law_g_spoiled : FuncData
  d__law_g_same_dict : FuncData
  d__law_g_first : FuncData
  d__law_purse : FuncData
  d__law_draw : FuncData
  d__law_matches : FuncData
  d__law_k84_wheels : FuncData
  d__law_k84_shifts : FuncData
  d__law_k84_turned : FuncData
  d__law_k84_exchanged : FuncData
  d__law_k84_right : FuncData
  d_law : FuncData
structure Txt (K : PySem.W.Frag) (mg : Str → Option Value) (w : World) (ad : Ad) (fd : Fd) : Prop where
  F_check : Fun K "check" "check" s_check ad.a_check fd.d_check
  F_spoiled : Fun K "spoiled" "spoiled" s_spoiled ad.a_spoiled fd.d_spoiled
  F_first_turn : Fun K "first_turn" "first_turn" s_first_turn ad.a_first_turn fd.d_first_turn
  F__law_g_spoiled : Fun K "_law_g_spoiled" "_law_g_spoiled" s__law_g_spoiled ad.a__law_g_spoiled fd.d__law_g_spoiled
  F__law_g_same_dict : Fun K "_law_g_same_dict" "_law_g_same_dict" s__law_g_same_dict ad.a__law_g_same_dict fd.d__law_g_same_dict
  F__law_g_first : Fun K "_law_g_first" "_law_g_first" s__law_g_first ad.a__law_g_first fd.d__law_g_first
  F__law_purse : Fun K "_law_purse" "_law_purse" s__law_purse ad.a__law_purse fd.d__law_purse
  F__law_draw : Fun K "_law_draw" "_law_draw" s__law_draw ad.a__law_draw fd.d__law_draw
  F__law_matches : Fun K "_law_matches" "_law_matches" s__law_matches ad.a__law_matches fd.d__law_matches
  F__law_k84_wheels : Fun K "_law_k84_wheels" "_law_k84_wheels" s__law_k84_wheels ad.a__law_k84_wheels fd.d__law_k84_wheels
  F__law_k84_shifts : Fun K "_law_k84_shifts" "_law_k84_shifts" s__law_k84_shifts ad.a__law_k84_shifts fd.d__law_k84_shifts
  F__law_k84_turned : Fun K "_law_k84_turned" "_law_k84_turned" s__law_k84_turned ad.a__law_k84_turned fd.d__law_k84_turned
  F__law_k84_exchanged : Fun K "_law_k84_exchanged" "_law_k84_exchanged" s__law_k84_exchanged ad.a__law_k84_exchanged fd.d__law_k84_exchanged
  F__law_k84_right : Fun K "_law_k84_right" "_law_k84_right" s__law_k84_right ad.a__law_k84_right fd.d__law_k84_right
  F_law : Fun K "law" "law" s_law ad.a_law fd.d_law
  g_check : mg "check" = some (.ref ad.a_check)
  g_spoiled : mg "spoiled" = some (.ref ad.a_spoiled)
  g_first_turn : mg "first_turn" = some (.ref ad.a_first_turn)
  g__law_g_spoiled : mg "_law_g_spoiled" = some (.ref ad.a__law_g_spoiled)
  g__law_g_same_dict : mg "_law_g_same_dict" = some (.ref ad.a__law_g_same_dict)
  g__law_g_first : mg "_law_g_first" = some (.ref ad.a__law_g_first)
  g__law_purse : mg "_law_purse" = some (.ref ad.a__law_purse)
  g__law_draw : mg "_law_draw" = some (.ref ad.a__law_draw)
  g__law_matches : mg "_law_matches" = some (.ref ad.a__law_matches)
  g__law_k84_wheels : mg "_law_k84_wheels" = some (.ref ad.a__law_k84_wheels)
  g__law_k84_shifts : mg "_law_k84_shifts" = some (.ref ad.a__law_k84_shifts)
  g__law_k84_turned : mg "_law_k84_turned" = some (.ref ad.a__law_k84_turned)
  g__law_k84_exchanged : mg "_law_k84_exchanged" = some (.ref ad.a__law_k84_exchanged)
  g__law_k84_right : mg "_law_k84_right" = some (.ref ad.a__law_k84_right)
  g_law : mg "law" = some (.ref ad.a_law)
  n_abs : mg "abs" = none
  n_bool : mg "bool" = none
  n_dict : mg "dict" = none
  n_int : mg "int" = none
  n_isinstance : mg "isinstance" = none
  n_len : mg "len" = none
  n_list : mg "list" = none
  n_max : mg "max" = none
  n_min : mg "min" = none
  n_range : mg "range" = none
  n_sorted : mg "sorted" = none
  n_str : mg "str" = none
  n_sum : mg "sum" = none
  n_tuple : mg "tuple" = none
  g_LIMITS : mg "LIMITS" = some (.ref ad.c_LIMITS)
  x_places : L2.KDct K w ad.c_LIMITS "places" (.int 60)
end K84
set_option Elab.async false
set_option linter.all false
set_option maxRecDepth 100000
set_option maxHeartbeats 4000000
namespace K84
open PySem L2 DL
/-! ### the purse and its draws -/
structure Pz where
  a : Int
  b : Int
  c : Int
def Pz.ns (p : Pz) : List Int := [p.a, p.b, p.c]
theorem Pz.len (p : Pz) : (Pz.ns p).length = 3 := rfl
abbrev pmc (p : Pz) : MC := .lst ((Pz.ns p).map D.int)
def draw (p : Pz) (m : Int) : Int × Pz :=
  if 0 < p.a then (p.a % m, ⟨p.a / m, p.b, p.c⟩)
  else ((((p.b * 48271 + (p.c + 1) * 69621) % 2147483647 * 16807 + (p.c + 1) * 7919) % 2147483629) / 8 % m, ⟨p.a, (p.b * 48271 + (p.c + 1) * 69621) % 2147483647, p.c + 1⟩)
theorem draw_pos {p : Pz} {m : Int} (h : 0 < p.a) : draw p m = (p.a % m, ⟨p.a / m, p.b, p.c⟩) := if_pos h
theorem draw_neg {p : Pz} {m : Int} (h : ¬ 0 < p.a) : draw p m = ((((p.b * 48271 + (p.c + 1) * 69621) % 2147483647 * 16807 + (p.c + 1) * 7919) % 2147483629) / 8 % m, ⟨p.a, (p.b * 48271 + (p.c + 1) * 69621) % 2147483647, p.c + 1⟩) := if_neg h
theorem draw_rng {p : Pz} {m : Int} (h : 0 < m) : 0 ≤ (draw p m).1 ∧ (draw p m).1 < m := by
  unfold draw
  split
  · exact ⟨Int.emod_nonneg _ (by omega), Int.emod_lt_of_pos _ h⟩
  · exact ⟨Int.emod_nonneg _ (by omega), Int.emod_lt_of_pos _ h⟩
/-- the purse behind i draws, and the i-th draw -/
def pAft (p : Pz) (m : Int) : Nat → Pz
  | 0 => p
  | i + 1 => (draw (pAft p m i) m).2
def dAt (p : Pz) (m : Int) (i : Nat) : Int := (draw (pAft p m i) m).1
theorem dAt_rng {p : Pz} {m : Int} (h : 0 < m) (i : Nat) : 0 ≤ dAt p m i ∧ dAt p m i < m := draw_rng h
def cellOf (ns : List Int) (k : Int) : Int := if k < ns.length then gI ns k else 31 * (cutD ns none (some 4)).sum
def sizeOf' (c : Int) : Int := 2 * (if c < 0 then -c else c) + (if c < 0 then 1 else 0)
def purseOf (ns : List Int) (k : Int) : Pz :=
  ⟨if 1000000000000000000 ≤ sizeOf' (cellOf ns k) then sizeOf' (cellOf ns k) else 0, (sizeOf' (cellOf ns k) + k * 104729 + 12345) % 2147483629, k⟩
def ph_draw : List MC → List Rv → List MC → Out → Prop := fun M rs M' o => ∃ p m, M = [pmc p] ∧ rs = [.cel 0, rint m] ∧ 0 < m ∧ m < 1073741824 ∧ M' = [pmc (draw p m).2] ∧ o = .ret (.int (draw p m).1)
def ph_purse : List MC → List Rv → List MC → Out → Prop := fun M rs M' o => ∃ ns k, M = [] ∧ rs = [.dat (.scr ns), rint k] ∧ 0 ≤ k ∧ ns.length ≤ 63 ∧ M' = [] ∧ o = .new (pmc (purseOf ns k))
abbrev sp__law_draw (K : PySem.W.Frag) : Sp := FSp K ph_draw
abbrev sp__law_purse (K : PySem.W.Frag) : Sp := FSp K ph_purse
/-- a draw, from the cell k -/
theorem ev_draw {K : PySem.W.Frag} {t : TA} {M M1 : List MC} {E : List (Option Rv)} {k : Nat} {m : Int} {p : Pz} (ha : EvA K t M E M1 [.cel k, rint m]) (hk : M1[k]? = some (pmc p)) (h0 : 0 < m) (h1 : m < 1073741824) :
    EvD K (tCall (FSp K ph_draw) [] E0 t) M E (M1.set k (pmc (draw p m).2)) (rint (draw p m).1) :=
  ev_call1 ha (by intro z; cases z) hk (by intro z; cases z) ⟨p, m, rfl, rfl, h0, h1, rfl, rfl⟩
/-- a draw, the purse the first cell -/
theorem ev_drawC {K : PySem.W.Frag} {t : TA} {Ms : List MC} {E : List (Option Rv)} {m : Int} {p : Pz} (ha : EvA K t (pmc p :: Ms) E (pmc p :: Ms) [.cel 0, rint m]) (h0 : 0 < m) (h1 : m < 1073741824) :
    EvD K (tCall (FSp K ph_draw) [] E0 t) (pmc p :: Ms) E (pmc (draw p m).2 :: Ms) (rint (draw p m).1) := ev_draw ha rfl h0 h1
/-- the i-th draw of a row -/
theorem ev_drawS {K : PySem.W.Frag} {t : TA} {Ms : List MC} {E : List (Option Rv)} {m : Int} {p : Pz} {i : Nat} (ha : EvA K t (pmc (pAft p m i) :: Ms) E (pmc (pAft p m i) :: Ms) [.cel 0, rint m]) (h0 : 0 < m) (h1 : m < 1073741824) :
    EvD K (tCall (FSp K ph_draw) [] E0 t) (pmc (pAft p m i) :: Ms) E (pmc (pAft p m (i + 1)) :: Ms) (rint (dAt p m i)) := ev_draw ha rfl h0 h1

/-! ### the steps: one rule an expression, by its reading's head -/
local macro_rules | `(tactic| wtm_at "ev") => `(tactic| first
  | exact ev_var rfl
  | exact ev_int
  | exact ev_non
  | exact ev_bl
  | exact ev_str
  | exact ea_nil
  | with_reducible apply ea_cons
  | ((with_reducible refine' ev_isi ?a ?b ?c); (case' a => repeat' wtm_at "ev"); (case' b => exact rfl); (case' c => exact rfl))
  | with_reducible apply ev_cb
  | with_reducible apply ev_op
  | with_reducible apply ev_un
  | with_reducible apply et_test
  | with_reducible apply et_B
  | with_reducible apply et_not
  | with_reducible apply ev_isN
  | with_reducible apply ev_notN
  | with_reducible apply ev_notV
  | with_reducible apply et_and
  | with_reducible apply et_or
  | with_reducible apply ev_andV
  | with_reducible apply ev_orV
  | with_reducible apply ev_ifI
  | with_reducible apply ev_ifD
  | ((with_reducible refine' ev_dnotin ?a ?b ?c ?d); (case' a => repeat' wtm_at "ev"); (case' b => repeat' wtm_at "ev"); (case' c => exact rfl); (case' d => first | exact .inl rfl | exact .inr ⟨_, rfl, rfl⟩))
  | ((with_reducible refine' ev_din ?a ?b ?c ?d); (case' a => repeat' wtm_at "ev"); (case' b => repeat' wtm_at "ev"); (case' c => exact rfl); (case' d => first | exact .inl rfl | exact .inr ⟨_, rfl, rfl⟩))
  | with_reducible apply ev_lcLAI
  | with_reducible apply ev_lcLII
  | with_reducible apply ev_lcLA
  | with_reducible apply ev_lcLI
  | with_reducible apply ev_lcRAI
  | with_reducible apply ev_lcRI
  | with_reducible apply ev_lcRA
  | with_reducible apply ev_lcR
  | exact et_yes
  | with_reducible intro _
  | exact od_int
  | exact od_bool
  | exact od_eqI
  | exact od_neI
  | exact od_eqS
  | exact od_neS
  | exact ud_neg
  | exact cd_abs
  | exact cd_max2
  | exact cd_min2
  | exact cd_int
  | exact cd_intB
  | exact cd_lenScr
  | exact cd_lenT
  | exact cd_lenI (.inl rfl)
  | exact cd_lenI (.inr ⟨_, rfl, rfl⟩)
  | exact cd_len (.inl rfl)
  | exact cd_len (.inr ⟨_, rfl, rfl⟩)
  | exact cd_lenD (.inl rfl)
  | exact cd_lenD (.inr ⟨_, rfl, rfl⟩)
  | exact cd_sum (.inl rfl)
  | exact cd_sorted (.inl rfl)
  | exact cd_list (.inl rfl)
  | exact cd_listT
  | exact eo_none
  | with_reducible apply eo_some
  | with_reducible apply ev_sliceScr
  | refine' ev_sliceI ?_ ?_ ?_ (.inl rfl)
  | with_reducible apply od_intC
  | with_reducible apply od_ixScr
  | refine' od_ixI (.inl rfl) ?_ ?_
  | refine' od_ixI (.inr ⟨_, rfl, rfl⟩) ?_ ?_
  | exact od_ixT rfl
  | exact od_inI (.inl rfl)
  | exact od_notinI (.inl rfl)
  | refine' od_cat (.inl rfl) (.inl rfl) ?_
  | ((with_reducible refine' ev_tup ?h ?r ?l); (case' h => repeat' wtm_at "ev"); (case' r => exact rfl); (case' l => exact Nat.le_of_ble_eq_true rfl))
  | (refine (show CMul _ _ from .inl ⟨?_, ?_⟩) <;> decide)
  | (refine (show CMul _ _ from .inr ⟨?_, ?_⟩) <;> decide)
  | (refine (show (_ : Prop) from ?_); assumption)
  | (refine (show CDiv _ _ from ⟨?_, ?_⟩) <;> omega)
  | (refine (show CPow _ _ from ⟨?_, ?_, ?_⟩) <;> decide)
  | omega
  | (simp only [Pz.len]; done)
  | (simp only [Pz.len, List.length_map, List.length_append, List.length_range, List.length_set, List.length_reverse]; omega))
/-! a statement's step: its values are reckoned, what is left is the way on -/
local macro_rules | `(tactic| wtm_at "st") => `(tactic| first
  | (refine' q_set (by assumption) ?h ?k; (case' h => repeat' wtm_at "ev"); (case' k => (intro _ _ _ _ _; try dsimp only)))
  | (refine' s_set (by assumption) ?h ?k; (case' h => repeat' wtm_at "ev"); (case' k => (intro _ _ _ _ _; try dsimp only)))
  | (refine' q_augS (by assumption) ?h1 ?h2 ?h3 ?r1 ?r2 ?s1 ?s2 ?k; (case' h1 => repeat' wtm_at "ev"); (case' h2 => repeat' wtm_at "ev"); (case' h3 => repeat' wtm_at "ev"); (case' r1 => exact rfl); (case' r2 => exact rfl); (case' s1 => try wtm_at "ev"); (case' s2 => try wtm_at "ev"); (case' k => (intro _ _ _ _ _; try dsimp only)))
  | (refine' s_augS (by assumption) ?h1 ?h2 ?h3 ?r1 ?r2 ?s1 ?s2 ?k; (case' h1 => repeat' wtm_at "ev"); (case' h2 => repeat' wtm_at "ev"); (case' h3 => repeat' wtm_at "ev"); (case' r1 => exact rfl); (case' r2 => exact rfl); (case' s1 => try wtm_at "ev"); (case' s2 => try wtm_at "ev"); (case' k => (intro _ _ _ _ _; try dsimp only)))
  | (refine' q_setLI (by assumption) ?h ?h1 ?h2 ?r1 ?s1 ?s2 ?k; (case' h => repeat' wtm_at "ev"); (case' h1 => repeat' wtm_at "ev"); (case' h2 => repeat' wtm_at "ev"); (case' r1 => exact rfl); (case' s1 => try wtm_at "ev"); (case' s2 => try wtm_at "ev"); (case' k => (intro _ _ _ _ _; try dsimp only)))
  | (refine' q_setL (by assumption) ?h ?h1 ?h2 ?r1 ?s1 ?s2 ?k; (case' h => repeat' wtm_at "ev"); (case' h1 => repeat' wtm_at "ev"); (case' h2 => repeat' wtm_at "ev"); (case' r1 => exact rfl); (case' s1 => try wtm_at "ev"); (case' s2 => try wtm_at "ev"); (case' k => (intro _ _ _ _ _; try dsimp only)))
  | (refine' s_setLI (by assumption) ?h ?h1 ?h2 ?r1 ?s1 ?s2 ?k; (case' h => repeat' wtm_at "ev"); (case' h1 => repeat' wtm_at "ev"); (case' h2 => repeat' wtm_at "ev"); (case' r1 => exact rfl); (case' s1 => try wtm_at "ev"); (case' s2 => try wtm_at "ev"); (case' k => (intro _ _ _ _ _; try dsimp only)))
  | (refine' s_setL (by assumption) ?h ?h1 ?h2 ?r1 ?s1 ?s2 ?k; (case' h => repeat' wtm_at "ev"); (case' h1 => repeat' wtm_at "ev"); (case' h2 => repeat' wtm_at "ev"); (case' r1 => exact rfl); (case' s1 => try wtm_at "ev"); (case' s2 => try wtm_at "ev"); (case' k => (intro _ _ _ _ _; try dsimp only)))
  | (refine' q_appI (by assumption) ?h1 ?h ?r1 ?r2 ?s ?k; (case' h1 => repeat' wtm_at "ev"); (case' h => repeat' wtm_at "ev"); (case' r1 => exact rfl); (case' r2 => exact rfl); (case' s => try wtm_at "ev"); (case' k => (intro _ _ _ _ _; try dsimp only)))
  | (refine' q_app (by assumption) ?h1 ?h ?r1 ?r2 ?s ?k; (case' h1 => repeat' wtm_at "ev"); (case' h => repeat' wtm_at "ev"); (case' r1 => exact rfl); (case' r2 => exact rfl); (case' s => try wtm_at "ev"); (case' k => (intro _ _ _ _ _; try dsimp only)))
  | (refine' s_appI (by assumption) ?h1 ?h ?r1 ?r2 ?s ?k; (case' h1 => repeat' wtm_at "ev"); (case' h => repeat' wtm_at "ev"); (case' r1 => exact rfl); (case' r2 => exact rfl); (case' s => try wtm_at "ev"); (case' k => (intro _ _ _ _ _; try dsimp only)))
  | (refine' s_app (by assumption) ?h1 ?h ?r1 ?r2 ?s ?k; (case' h1 => repeat' wtm_at "ev"); (case' h => repeat' wtm_at "ev"); (case' r1 => exact rfl); (case' r2 => exact rfl); (case' s => try wtm_at "ev"); (case' k => (intro _ _ _ _ _; try dsimp only)))
  | (refine' q_dput (by assumption) ?h ?h1 ?h2 ?r1 ?r2 ?s ?k; (case' h => repeat' wtm_at "ev"); (case' h1 => repeat' wtm_at "ev"); (case' h2 => repeat' wtm_at "ev"); (case' r1 => exact rfl); (case' r2 => exact rfl); (case' s => try wtm_at "ev"); (case' k => (intro _ _ _ _ _; try dsimp only)))
  | (refine' s_dput (by assumption) ?h ?h1 ?h2 ?r1 ?r2 ?s ?k; (case' h => repeat' wtm_at "ev"); (case' h1 => repeat' wtm_at "ev"); (case' h2 => repeat' wtm_at "ev"); (case' r1 => exact rfl); (case' r2 => exact rfl); (case' s => try wtm_at "ev"); (case' k => (intro _ _ _ _ _; try dsimp only)))
  | (refine' q_tup2 (by assumption) ?h ?k; (case' h => repeat' wtm_at "ev"); (case' k => (intro _ _ _ _ _; try dsimp only)))
  | (refine' q_drop (by assumption) ?h ?k; (case' h => repeat' wtm_at "ev"); (case' k => (intro _ _ _ _ _; try dsimp only)))
  | (refine' q_if (by assumption) ?h ?k1 ?k2; (case' h => repeat' wtm_at "ev"))
  | (refine' s_if (by assumption) ?h ?k1 ?k2; (case' h => repeat' wtm_at "ev"))
  | (refine' s_ret (by assumption) ?h ?k; (case' h => repeat' wtm_at "ev"); (case' k => (intro _ _ _ _ _ _ _; try dsimp only)))
  | (refine' q_ret (by assumption) ?h ?k; (case' h => repeat' wtm_at "ev"); (case' k => (intro _ _ _ _ _ _ _; try dsimp only)))
  | ((with_reducible refine' s_next (by assumption) ?k); (case' k => (intro _ _ _ _ _; try dsimp only)))
  | (with_reducible refine q_next ?_))

theorem ok__law_draw {P : Program} {w : World} {K : PySem.W.Frag} {mg : Str → Option Value} {base : Heap} {ad : Ad} {fd : Fd} (T : Txt K mg w ad fd) : FnOk P w K mg base CX0 1 ad.a__law_draw fd.d__law_draw ["purse", "many"] (sp__law_draw K) := by
  refine Fun.ok (k := 0) T.F__law_draw sc__law_draw (fun vs H Q E h => ?_) (fun cdv A outer s H vs Q E hr h => ?_)
  · exact h.len fun M rs M' o ⟨p, m, _, e, _⟩ => by rw [e]; rfl
  · refine ⟨_, (pss_cons (ps_if (pt_cmpR op_gt (pe_ix (ix_listK (K := K) rfl) (pv 0) (pe_int) (fun _ _ => rfl)) (pe_int) (nomark _)) (pss_cons (ps_set (i := 2) sc__law_draw.nd rfl (by first | exact Or.inl rfl | exact Or.inr rfl) (pe_op op_mod (pe_callTy call_int1 (by rfl) T.n_int (by decide +kernel) (pa_cons (pe_ix (ix_listK (K := K) rfl) (pv 0) (pe_int) (fun _ _ => rfl)) pa_nil)) (pv 1)))
  (pss_cons (ps_asg (pe_op op_fdiv (pe_ix (ix_listK (K := K) rfl) (pv 0) (pe_int) (fun _ _ => rfl)) (pv 1)) (pg_sub (pv 0) (pe_int) set_list))
  (pss_one (ps_ret (pv 2))))) pss_nil)
  (pss_cons (ps_augS (pv 0) (pe_int) (pget_listK (K := K) rfl) (pe_int) ip_add set_list)
  (pss_cons (ps_asg (pe_op op_mod (pe_callTy call_int1 (by rfl) T.n_int (by decide +kernel) (pa_cons (pe_op op_add (pe_op op_mul (pe_ix (ix_listK (K := K) rfl) (pv 0) (pe_int) (fun _ _ => rfl)) (pe_int)) (pe_op op_mul (pe_ix (ix_listK (K := K) rfl) (pv 0) (pe_int) (fun _ _ => rfl)) (pe_int))) pa_nil)) (pe_int)) (pg_sub (pv 0) (pe_int) set_list))
  (pss_one (ps_ret (pe_op op_mod (pe_op op_fdiv (pe_op op_mod (pe_callTy call_int1 (by rfl) T.n_int (by decide +kernel) (pa_cons (pe_op op_add (pe_op op_mul (pe_ix (ix_listK (K := K) rfl) (pv 0) (pe_int) (fun _ _ => rfl)) (pe_int)) (pe_op op_mul (pe_ix (ix_listK (K := K) rfl) (pv 0) (pe_int) (fun _ _ => rfl)) (pe_int))) pa_nil)) (pe_int)) (pe_int)) (pv 1))))))), ?_⟩
    try dsimp only [cxOf, Cx.nox, Cx.wish, List.map]
    refine h.reading fun F As M rs M' o hΦ hL B S hB hA post => ?_
    obtain ⟨p, m, rfl, rfl, h1, h2, rfl, rfl⟩ := hΦ
    dsimp only at post
    wtm_at "st"
    · intro hc F As σ H S
      have hc : 0 < p.a := of_decide_eq_true hc
      rw [draw_pos hc] at post
      wtm_at "st"
      wtm_at "st"
      wtm_at "st"
      exact post _ _ _ _ _ _ _ (by assumption) rfl (by assumption)
    · intro hc F As σ H S
      have hc : ¬ 0 < p.a := of_decide_eq_false hc
      rw [draw_neg hc] at post
      wtm_at "st"
      wtm_at "st"
      wtm_at "st"
      wtm_at "st"
      exact post _ _ _ _ _ _ _ (by assumption) rfl (by assumption)
theorem ok__law_purse {P : Program} {w : World} {K : PySem.W.Frag} {mg : Str → Option Value} {base : Heap} {ad : Ad} {fd : Fd} (T : Txt K mg w ad fd) : FnOk P w K mg base CX0 1 ad.a__law_purse fd.d__law_purse ["script", "at"] (sp__law_purse K) := by
  refine Fun.ok (k := 0) T.F__law_purse sc__law_purse (fun vs H Q E h => ?_) (fun cdv A outer s H vs Q E hr h => ?_)
  · exact h.len fun M rs M' o ⟨ns, k, _, e, _⟩ => by rw [e]; rfl
  · refine ⟨_, (pss_cons (ps_set (i := 2) sc__law_purse.nd rfl (by first | exact Or.inl rfl | exact Or.inr rfl) (pe_ifExp (pt_cmpR op_lt (pv 1) (pe_callB (call_lenK (K := K) rfl) (by rfl) T.n_len (by decide +kernel) (pa_cons (pv 0) pa_nil)) (nomark _)) (pe_callTy call_int1 (by rfl) T.n_int (by decide +kernel) (pa_cons (pe_ix (ix_listK (K := K) rfl) (pv 0) (pv 1) (fun _ _ => rfl)) pa_nil)) (pe_op op_mul (pe_int) (pe_callB (cr_sumK (K := K) rfl rfl) (by rfl) T.n_sum (by decide +kernel) (pa_cons (pe_lc rfl sc__law_purse.nd (pi_listK (K := K) rfl (pe_slice (sl_listK (K := K) rfl) (pv 0) po_none (po_some (pe_int)))) (blkOk_by (own := [("one", 3)]) (N := N__law_purse) (sc := defScope s__law_purse) (by decide +kernel)) (fun _ _ _ _ _ => (pg_name (i := 3) sc__law_purse.nd rfl (by first | exact Or.inl rfl | exact Or.inr rfl))) (fun _ _ _ _ _ => pts_nil) (fun _ _ _ _ _ => (pe_callTy call_int1 (by rfl) T.n_int (by decide +kernel) (pa_cons (pv 3) pa_nil)))) pa_nil)))))
  (pss_cons (ps_set (i := 4) sc__law_purse.nd rfl (by first | exact Or.inl rfl | exact Or.inr rfl) (pe_op op_add (pe_op op_mul (pe_int) (pe_callB call_abs (by rfl) T.n_abs (by decide +kernel) (pa_cons (pv 2) pa_nil))) (pe_ifExp (pt_cmpR op_lt (pv 2) (pe_int) (nomark _)) (pe_int) (pe_int))))
  (pss_one (ps_ret (pe_lst (pa_cons (pe_ifExp (pt_cmpR op_ge (pv 4) (pe_op op_pow (pe_int) (pe_int)) (nomark _)) (pv 4) (pe_int)) (pa_cons (pe_op op_mod (pe_callTy call_int1 (by rfl) T.n_int (by decide +kernel) (pa_cons (pe_op op_add (pe_op op_add (pv 4) (pe_op op_mul (pv 1) (pe_int))) (pe_int)) pa_nil)) (pe_int)) (pa_cons (pv 1) pa_nil)))))))), ?_⟩
    try dsimp only [cxOf, Cx.nox, Cx.wish, List.map]
    refine h.reading fun F As M rs M' o hΦ hL B S hB hA post => ?_
    obtain ⟨ns, k, rfl, rfl, h1, h2, rfl, rfl⟩ := hΦ
    dsimp only at post
    refine q_set S (r := rint (cellOf ns k)) (M' := []) ?_ ?_
    · refine ev_if (b := decide (k < ns.length)) (M1 := []) ?_ ?_ ?_
      · repeat' wtm_at "ev"
      · intro hc
        have hc : k < ns.length := of_decide_eq_true hc
        rw [show cellOf ns k = gI ns k from if_pos hc]
        repeat' wtm_at "ev"
      · intro hc
        have hc : ¬ k < ns.length := of_decide_eq_false hc
        rw [show cellOf ns k = 31 * (cutD ns none (some 4)).sum from if_neg hc]
        refine' ev_is ?h ?e
        case' h =>
          repeat' wtm_at "ev"
        · have := cutD_len ns none (some 4)
          omega
        case e => rw [List.map_id']
    · intro F As σ H S
      wtm_at "st"
      refine' s_ret (by assumption) (ev_lstM ?h ?r ?l) ?k
      case' h => repeat' wtm_at "ev"
      case' r => exact rfl
      case' l => exact Nat.le_of_ble_eq_true rfl
      intro v F As σ H S rv
      refine post _ _ _ _ _ _ _ _ S rfl (Nat.le_refl _) ?_ (by intro z; cases z) rv
      show some (MC.lst _) = some (MC.lst _)
      simp only [Pz.ns, purseOf, sizeOf', decide_eq_true_eq, List.map_cons, List.map_nil]
      rfl
def ph_check60 : List MC → List Rv → List MC → Out → Prop := fun M rs M' o => ∃ n, M = [] ∧ rs = [rstr "places", rint n] ∧ n ≤ 60 ∧ M' = [] ∧ o = .ret .non
abbrev sp_check (K : PySem.W.Frag) : Sp := FSp K ph_check60
theorem ok_check {P : Program} {w : World} {K : PySem.W.Frag} {mg : Str → Option Value} {base : Heap} {ad : Ad} {fd : Fd} (T : Txt K mg w ad fd) : FnOk P w K mg base CX0 1 ad.a_check fd.d_check ["what", "number"] (sp_check K) := by
  refine Fun.ok (k := 0) T.F_check sc_check (fun vs H Q E h => ?_) (fun cdv A outer s H vs Q E hr h => ?_)
  · exact h.len fun M rs M' o ⟨n, _, e, _⟩ => by rw [e]; rfl
  · refine ⟨_, (pss_one (ps_if (pt_cmpR op_gt (pv 1) (pe_ix (ix_kdictK (K := K) (w := w) rfl rfl) (pe_glob (v := .ref ad.c_LIMITS) rfl T.g_LIMITS rfl) (pv 0) (fun _ _ => rfl)) (nomark _)) (pss_one (ps_never)) pss_nil)), ?_⟩
    try dsimp only [cxOf, Cx.nox, Cx.wish, List.map]
    refine h.reading fun F As M rs M' o hΦ hL B S hB hA post => ?_
    obtain ⟨n, rfl, rfl, h1, rfl, rfl⟩ := hΦ
    dsimp only at post
    refine' s_if S ?h ?k1 ?k2
    case' h =>
      apply et_test
      apply ev_op
      exact ev_var rfl
      exact ev_kdict (ev_var rfl) T.x_places
      exact od_bool
    · intro hc F As σ H S
      have := of_decide_eq_true hc
      omega
    · intro hc F As σ H S
      wtm_at "st"
      exact post _ _ _ _ _ _ _ (by assumption) rfl .non
end K84
set_option Elab.async false
set_option linter.all false
set_option maxRecDepth 100000
set_option maxHeartbeats 4000000
namespace K84
open PySem L2 DL
/-! ### the steps: one rule an expression, by its reading's head -/
local macro_rules | `(tactic| wtm_at "ev") => `(tactic| first
  | exact ev_var rfl
  | exact ev_int
  | exact ev_non
  | exact ev_bl
  | exact ev_str
  | exact ea_nil
  | with_reducible apply ea_cons
  | ((with_reducible refine' ev_isi ?a ?b ?c); (case' a => repeat' wtm_at "ev"); (case' b => exact rfl); (case' c => exact rfl))
  | with_reducible apply ev_cb
  | with_reducible apply ev_op
  | with_reducible apply ev_un
  | with_reducible apply et_test
  | with_reducible apply et_B
  | with_reducible apply et_not
  | with_reducible apply ev_isN
  | with_reducible apply ev_notN
  | with_reducible apply ev_notV
  | with_reducible apply et_and
  | with_reducible apply et_or
  | with_reducible apply ev_andV
  | with_reducible apply ev_orV
  | with_reducible apply ev_ifI
  | with_reducible apply ev_ifD
  | ((with_reducible refine' ev_dnotin ?a ?b ?c ?d); (case' a => repeat' wtm_at "ev"); (case' b => repeat' wtm_at "ev"); (case' c => exact rfl); (case' d => first | exact .inl rfl | exact .inr ⟨_, rfl, rfl⟩))
  | ((with_reducible refine' ev_din ?a ?b ?c ?d); (case' a => repeat' wtm_at "ev"); (case' b => repeat' wtm_at "ev"); (case' c => exact rfl); (case' d => first | exact .inl rfl | exact .inr ⟨_, rfl, rfl⟩))
  | with_reducible apply ev_lcLAI
  | with_reducible apply ev_lcLII
  | with_reducible apply ev_lcLA
  | with_reducible apply ev_lcLI
  | with_reducible apply ev_lcRAI
  | with_reducible apply ev_lcRI
  | with_reducible apply ev_lcRA
  | with_reducible apply ev_lcR
  | exact et_yes
  | with_reducible intro _
  | exact od_int
  | exact od_bool
  | exact od_eqI
  | exact od_neI
  | exact od_eqS
  | exact od_neS
  | exact ud_neg
  | exact cd_abs
  | exact cd_max2
  | exact cd_min2
  | exact cd_int
  | exact cd_intB
  | exact cd_lenScr
  | exact cd_lenT
  | exact cd_lenI (.inl rfl)
  | exact cd_lenI (.inr ⟨_, rfl, rfl⟩)
  | exact cd_len (.inl rfl)
  | exact cd_len (.inr ⟨_, rfl, rfl⟩)
  | exact cd_lenD (.inl rfl)
  | exact cd_lenD (.inr ⟨_, rfl, rfl⟩)
  | exact cd_sum (.inl rfl)
  | exact cd_sorted (.inl rfl)
  | exact cd_list (.inl rfl)
  | exact cd_listT
  | exact eo_none
  | with_reducible apply eo_some
  | with_reducible apply ev_sliceScr
  | refine' ev_sliceI ?_ ?_ ?_ (.inl rfl)
  | with_reducible apply od_intC
  | with_reducible apply od_ixScr
  | refine' od_ixI (.inl rfl) ?_ ?_
  | refine' od_ixI (.inr ⟨_, rfl, rfl⟩) ?_ ?_
  | exact od_ixT rfl
  | exact od_inI (.inl rfl)
  | exact od_notinI (.inl rfl)
  | refine' od_cat (.inl rfl) (.inl rfl) ?_
  | ((with_reducible refine' ev_tup ?h ?r ?l); (case' h => repeat' wtm_at "ev"); (case' r => exact rfl); (case' l => exact Nat.le_of_ble_eq_true rfl))
  | (refine (show CMul _ _ from .inl ⟨?_, ?_⟩) <;> decide)
  | (refine (show CMul _ _ from .inr ⟨?_, ?_⟩) <;> decide)
  | (refine (show (_ : Prop) from ?_); assumption)
  | (refine (show CDiv _ _ from ⟨?_, ?_⟩) <;> omega)
  | (refine (show CPow _ _ from ⟨?_, ?_, ?_⟩) <;> decide)
  | omega
  | (simp only [Pz.len]; done)
  | (simp only [Pz.len, List.length_map, List.length_append, List.length_range, List.length_set, List.length_reverse]; omega))
/-! a statement's step: its values are reckoned, what is left is the way on -/
local macro_rules | `(tactic| wtm_at "st") => `(tactic| first
  | (refine' q_set (by assumption) ?h ?k; (case' h => repeat' wtm_at "ev"); (case' k => (intro _ _ _ _ _; try dsimp only)))
  | (refine' s_set (by assumption) ?h ?k; (case' h => repeat' wtm_at "ev"); (case' k => (intro _ _ _ _ _; try dsimp only)))
  | (refine' q_augS (by assumption) ?h1 ?h2 ?h3 ?r1 ?r2 ?s1 ?s2 ?k; (case' h1 => repeat' wtm_at "ev"); (case' h2 => repeat' wtm_at "ev"); (case' h3 => repeat' wtm_at "ev"); (case' r1 => exact rfl); (case' r2 => exact rfl); (case' s1 => try wtm_at "ev"); (case' s2 => try wtm_at "ev"); (case' k => (intro _ _ _ _ _; try dsimp only)))
  | (refine' s_augS (by assumption) ?h1 ?h2 ?h3 ?r1 ?r2 ?s1 ?s2 ?k; (case' h1 => repeat' wtm_at "ev"); (case' h2 => repeat' wtm_at "ev"); (case' h3 => repeat' wtm_at "ev"); (case' r1 => exact rfl); (case' r2 => exact rfl); (case' s1 => try wtm_at "ev"); (case' s2 => try wtm_at "ev"); (case' k => (intro _ _ _ _ _; try dsimp only)))
  | (refine' q_setLI (by assumption) ?h ?h1 ?h2 ?r1 ?s1 ?s2 ?k; (case' h => repeat' wtm_at "ev"); (case' h1 => repeat' wtm_at "ev"); (case' h2 => repeat' wtm_at "ev"); (case' r1 => exact rfl); (case' s1 => try wtm_at "ev"); (case' s2 => try wtm_at "ev"); (case' k => (intro _ _ _ _ _; try dsimp only)))
  | (refine' q_setL (by assumption) ?h ?h1 ?h2 ?r1 ?s1 ?s2 ?k; (case' h => repeat' wtm_at "ev"); (case' h1 => repeat' wtm_at "ev"); (case' h2 => repeat' wtm_at "ev"); (case' r1 => exact rfl); (case' s1 => try wtm_at "ev"); (case' s2 => try wtm_at "ev"); (case' k => (intro _ _ _ _ _; try dsimp only)))
  | (refine' s_setLI (by assumption) ?h ?h1 ?h2 ?r1 ?s1 ?s2 ?k; (case' h => repeat' wtm_at "ev"); (case' h1 => repeat' wtm_at "ev"); (case' h2 => repeat' wtm_at "ev"); (case' r1 => exact rfl); (case' s1 => try wtm_at "ev"); (case' s2 => try wtm_at "ev"); (case' k => (intro _ _ _ _ _; try dsimp only)))
  | (refine' s_setL (by assumption) ?h ?h1 ?h2 ?r1 ?s1 ?s2 ?k; (case' h => repeat' wtm_at "ev"); (case' h1 => repeat' wtm_at "ev"); (case' h2 => repeat' wtm_at "ev"); (case' r1 => exact rfl); (case' s1 => try wtm_at "ev"); (case' s2 => try wtm_at "ev"); (case' k => (intro _ _ _ _ _; try dsimp only)))
  | (refine' q_appI (by assumption) ?h1 ?h ?r1 ?r2 ?s ?k; (case' h1 => repeat' wtm_at "ev"); (case' h => repeat' wtm_at "ev"); (case' r1 => exact rfl); (case' r2 => exact rfl); (case' s => try wtm_at "ev"); (case' k => (intro _ _ _ _ _; try dsimp only)))
  | (refine' q_app (by assumption) ?h1 ?h ?r1 ?r2 ?s ?k; (case' h1 => repeat' wtm_at "ev"); (case' h => repeat' wtm_at "ev"); (case' r1 => exact rfl); (case' r2 => exact rfl); (case' s => try wtm_at "ev"); (case' k => (intro _ _ _ _ _; try dsimp only)))
  | (refine' s_appI (by assumption) ?h1 ?h ?r1 ?r2 ?s ?k; (case' h1 => repeat' wtm_at "ev"); (case' h => repeat' wtm_at "ev"); (case' r1 => exact rfl); (case' r2 => exact rfl); (case' s => try wtm_at "ev"); (case' k => (intro _ _ _ _ _; try dsimp only)))
  | (refine' s_app (by assumption) ?h1 ?h ?r1 ?r2 ?s ?k; (case' h1 => repeat' wtm_at "ev"); (case' h => repeat' wtm_at "ev"); (case' r1 => exact rfl); (case' r2 => exact rfl); (case' s => try wtm_at "ev"); (case' k => (intro _ _ _ _ _; try dsimp only)))
  | (refine' q_dput (by assumption) ?h ?h1 ?h2 ?r1 ?r2 ?s ?k; (case' h => repeat' wtm_at "ev"); (case' h1 => repeat' wtm_at "ev"); (case' h2 => repeat' wtm_at "ev"); (case' r1 => exact rfl); (case' r2 => exact rfl); (case' s => try wtm_at "ev"); (case' k => (intro _ _ _ _ _; try dsimp only)))
  | (refine' s_dput (by assumption) ?h ?h1 ?h2 ?r1 ?r2 ?s ?k; (case' h => repeat' wtm_at "ev"); (case' h1 => repeat' wtm_at "ev"); (case' h2 => repeat' wtm_at "ev"); (case' r1 => exact rfl); (case' r2 => exact rfl); (case' s => try wtm_at "ev"); (case' k => (intro _ _ _ _ _; try dsimp only)))
  | (refine' q_tup2 (by assumption) ?h ?k; (case' h => repeat' wtm_at "ev"); (case' k => (intro _ _ _ _ _; try dsimp only)))
  | (refine' q_drop (by assumption) ?h ?k; (case' h => repeat' wtm_at "ev"); (case' k => (intro _ _ _ _ _; try dsimp only)))
  | (refine' q_if (by assumption) ?h ?k1 ?k2; (case' h => repeat' wtm_at "ev"))
  | (refine' s_if (by assumption) ?h ?k1 ?k2; (case' h => repeat' wtm_at "ev"))
  | (refine' s_ret (by assumption) ?h ?k; (case' h => repeat' wtm_at "ev"); (case' k => (intro _ _ _ _ _ _ _; try dsimp only)))
  | (refine' q_ret (by assumption) ?h ?k; (case' h => repeat' wtm_at "ev"); (case' k => (intro _ _ _ _ _ _ _; try dsimp only)))
  | ((with_reducible refine' s_next (by assumption) ?k); (case' k => (intro _ _ _ _ _; try dsimp only)))
  | (with_reducible refine q_next ?_))

/-- two wheels of the same number of places -/
structure Wh (bs ps : List Int) (n : Nat) : Prop where
  b : bs.length = n
  p : ps.length = n
  h0 : 0 < n
  h60 : n ≤ 60
def ph_spoiled : List MC → List Rv → List MC → Out → Prop := fun M rs M' o => ∃ bs ps n, M = [] ∧ rs = [rints bs, rints ps] ∧ Wh bs ps n ∧ M' = [] ∧ o = .ret (.dct (spD bs ps n n))
abbrev sp_spoiled (K : PySem.W.Frag) : Sp := FSp K ph_spoiled
theorem ok_spoiled {P : Program} {w : World} {K : PySem.W.Frag} {mg : Str → Option Value} {base : Heap} {ad : Ad} {fd : Fd} (T : Txt K mg w ad fd) : FnOk P w K mg base CX0 2 ad.a_spoiled fd.d_spoiled ["bores", "pins"] (sp_spoiled K) := by
  have G_check := ok_check (P := P) (base := base) T
  have b_check := T.F_check.binds (ps := ["what", "number"]) fun _ _ _ _ _ _ us hl => match us, hl with | [_, _], _ => rfl
  refine Fun.ok (k := 1) T.F_spoiled sc_spoiled (fun vs H Q E h => ?_) (fun cdv A outer s H vs Q E hr h => ?_)
  · exact h.len fun M rs M' o ⟨bs, ps, n, _, e, _⟩ => by rw [e]; rfl
  · have hu := hu_of hr
    refine ⟨_, (pss_cons (ps_expr (pe_call G_check (hr.mono (by first | decide | omega)) rfl T.g_check T.F_check.kp b_check .nil pass0 (pa_cons (pe_str) (pa_cons (pe_callB (call_max2 rfl) (by rfl) T.n_max (by decide +kernel) (pa_cons (pe_callB (call_lenK (K := K) rfl) (by rfl) T.n_len (by decide +kernel) (pa_cons (pv 0) pa_nil)) (pa_cons (pe_callB (call_lenK (K := K) rfl) (by rfl) T.n_len (by decide +kernel) (pa_cons (pv 1) pa_nil)) pa_nil))) pa_nil))))
  (pss_cons (ps_if (PW.pt (pw_or (pt_cmpR op_ne (pe_callB (call_lenK (K := K) rfl) (by rfl) T.n_len (by decide +kernel) (pa_cons (pv 0) pa_nil)) (pe_callB (call_lenK (K := K) rfl) (by rfl) T.n_len (by decide +kernel) (pa_cons (pv 1) pa_nil)) (nomark _)) (pw_or1 (pt_cmpR op_eq (pe_callB (call_lenK (K := K) rfl) (by rfl) T.n_len (by decide +kernel) (pa_cons (pv 0) pa_nil)) (pe_int) (nomark _))))) (pss_one (ps_never)) pss_nil)
  (pss_cons (ps_set (i := 2) sc_spoiled.nd rfl (by first | exact Or.inl rfl | exact Or.inr rfl) (pe_callB (call_lenK (K := K) rfl) (by rfl) T.n_len (by decide +kernel) (pa_cons (pv 0) pa_nil)))
  (pss_cons (ps_set (i := 3) sc_spoiled.nd rfl (by first | exact Or.inl rfl | exact Or.inr rfl) (pe_dnewK))
  (pss_cons (ps_for PassesOwn.never rfl (pi_range1 (by rfl) T.n_range (pa_cons (pv 2) pa_nil)) (pg_name (i := 4) sc_spoiled.nd rfl (by first | exact Or.inl rfl | exact Or.inr rfl))
  (pss_one (ps_for PassesOwn.never rfl (pi_range1 (by rfl) T.n_range (pa_cons (pv 2) pa_nil)) (pg_name (i := 5) sc_spoiled.nd rfl (by first | exact Or.inl rfl | exact Or.inr rfl))
  (pss_cons (ps_set (i := 6) sc_spoiled.nd rfl (by first | exact Or.inl rfl | exact Or.inr rfl) (pe_op op_mod (pe_op op_sub (pv 4) (pv 5)) (pv 2)))
  (pss_one (ps_if (PW.pt (pw_and (pt_cmpR op_gt (pe_ix (ix_listK (K := K) rfl) (pv 1) (pv 5) (fun _ _ => rfl)) (pe_ix (ix_listK (K := K) rfl) (pv 0) (pv 4) (fun _ _ => rfl)) (nomark _)) (pw_and1 (pt_cmp (pc_dnotin hu (pv 6) (pv 3)))))) (pss_one (ps_dput hu (pv 3) (pv 6) (pe_tup (pa_cons (pv 4) (pa_cons (pv 5) pa_nil))) rfl)) pss_nil))))))
  (pss_one (ps_ret (pv 3)))))))), ?_⟩
    try dsimp only [cxOf, Cx.nox, Cx.wish, List.map]
    refine h.reading fun F As M rs M' o hΦ hL B S hB hA post => ?_
    obtain ⟨bs, ps, n, rfl, rfl, W, rfl, rfl⟩ := hΦ
    dsimp only at post
    obtain ⟨hb, hp, h0, h60⟩ := id W
    subst hb
    refine' q_drop S (ev_call0 (d := .non) ?h ?x ?p) ?k
    case' h => repeat' wtm_at "ev"
    case x => intro z; cases z
    case p => exact ⟨_, rfl, rfl, by split <;> omega, rfl, rfl⟩
    case k =>
    intro F As σ H S
    wtm_at "st"
    · intro hc
      simp [hp] at hc
      rw [hc] at h0
      exact absurd h0 (by decide)
    intro hc F As σ H S
    dsimp only
    wtm_at "st"
    wtm_at "st"
    refine' q_set (by assumption) ev_dnewM ?_
    intro F As σ H S
    refine' q_forR1 S (n := bs.length) ?h ?hn (fun i M E => M = [.dct (spD bs ps bs.length i)] ∧ ∃ x y z, E = [some (rints bs), some (rints ps), some (rint bs.length), some (.cel 0), x, y, z]) ?h0 ?hb ?hd
    case h => repeat' wtm_at "ev"
    case hn => omega
    case h0 => exact ⟨rfl, _, _, _, rfl⟩
    case hd =>
      rintro M E ⟨rfl, x, y, z, rfl⟩ F As σ H S
      refine s_retF S hB (ev_var rfl) rfl rfl (by rw [hA]; exact Nat.zero_le _) ?_
      intro v F As σ E H S rv
      rw [Int.toNat_natCast] at rv
      exact post _ _ _ _ _ _ _ S rfl rv
    case hb =>
      rintro i M E hi ⟨rfl, x, y, z, rfl⟩ F As σ H S
      dsimp only
      refine' s_forR1 S (n := bs.length) ?h ?hn (fun j M E => M = [.dct (inn bs ps bs.length i j (spD bs ps bs.length i))] ∧ ∃ y z, E = [some (rints bs), some (rints ps), some (rint bs.length), some (.cel 0), some (rint i), y, z]) ?h0 ?hb ?hd
      case h => repeat' wtm_at "ev"
      case hn => omega
      case h0 => exact ⟨rfl, _, _, rfl⟩
      case hd =>
        rintro M E ⟨rfl, y, z, rfl⟩ F As σ H S
        exact s_end S ⟨rfl, _, _, _, rfl⟩ (Ele.refl _)
      case hb =>
        rintro j M E hj ⟨rfl, y, z, rfl⟩ F As σ H S
        dsimp only
        wtm_at "st"
        have hb2 : (inn bs ps bs.length i j (spD bs ps bs.length i)).length ≤ bs.length := by
          obtain ⟨ks, hk⟩ := inn_keys (bs := bs) (ps := ps) (i := i) h0 (spD_keys (bs := bs) (ps := ps) h0 (m := i)) (j := j)
          exact hk.le
        have hstp : inn bs ps bs.length i (j + 1) (spD bs ps bs.length i) = stp bs ps bs.length i j (inn bs ps bs.length i j (spD bs ps bs.length i)) := rfl
        rw [hstp]
        unfold stp
        wtm_at "st"
        case k1 =>
          intro hc F As σ H S
          rw [Bool.and_eq_true, decide_eq_true_eq, Bool.not_eq_true', Option.isSome_eq_false_iff, Option.isNone_iff_eq_none] at hc
          rw [if_pos hc]
          wtm_at "st"
          exact s_end (by assumption) ⟨rfl, _, _, rfl⟩ (Ele.refl _)
        case k2 =>
          intro hc F As σ H S
          rw [if_neg (fun z => by rw [z.2, decide_eq_true z.1] at hc; cases hc)]
          exact s_end S ⟨rfl, _, _, rfl⟩ (Ele.refl _)
end K84
set_option Elab.async false
set_option linter.all false
set_option maxRecDepth 100000
set_option maxHeartbeats 4000000
namespace K84
open PySem L2 DL
/-! ### the steps: one rule an expression, by its reading's head -/
local macro_rules | `(tactic| wtm_at "ev") => `(tactic| first
  | exact ev_var rfl
  | exact ev_int
  | exact ev_non
  | exact ev_bl
  | exact ev_str
  | exact ea_nil
  | with_reducible apply ea_cons
  | ((with_reducible refine' ev_isi ?a ?b ?c); (case' a => repeat' wtm_at "ev"); (case' b => exact rfl); (case' c => exact rfl))
  | with_reducible apply ev_cb
  | with_reducible apply ev_op
  | with_reducible apply ev_un
  | with_reducible apply et_test
  | with_reducible apply et_B
  | with_reducible apply et_not
  | with_reducible apply ev_isN
  | with_reducible apply ev_notN
  | with_reducible apply ev_notV
  | with_reducible apply et_and
  | with_reducible apply et_or
  | with_reducible apply ev_andV
  | with_reducible apply ev_orV
  | with_reducible apply ev_ifI
  | with_reducible apply ev_ifD
  | ((with_reducible refine' ev_dnotin ?a ?b ?c ?d); (case' a => repeat' wtm_at "ev"); (case' b => repeat' wtm_at "ev"); (case' c => exact rfl); (case' d => first | exact .inl rfl | exact .inr ⟨_, rfl, rfl⟩))
  | ((with_reducible refine' ev_din ?a ?b ?c ?d); (case' a => repeat' wtm_at "ev"); (case' b => repeat' wtm_at "ev"); (case' c => exact rfl); (case' d => first | exact .inl rfl | exact .inr ⟨_, rfl, rfl⟩))
  | with_reducible apply ev_lcLAI
  | with_reducible apply ev_lcLII
  | with_reducible apply ev_lcLA
  | with_reducible apply ev_lcLI
  | with_reducible apply ev_lcRAI
  | with_reducible apply ev_lcRI
  | with_reducible apply ev_lcRA
  | with_reducible apply ev_lcR
  | exact et_yes
  | with_reducible intro _
  | exact od_int
  | exact od_bool
  | exact od_eqI
  | exact od_neI
  | exact od_eqS
  | exact od_neS
  | exact ud_neg
  | exact cd_abs
  | exact cd_max2
  | exact cd_min2
  | exact cd_int
  | exact cd_intB
  | exact cd_lenScr
  | exact cd_lenT
  | exact cd_lenI (.inl rfl)
  | exact cd_lenI (.inr ⟨_, rfl, rfl⟩)
  | exact cd_len (.inl rfl)
  | exact cd_len (.inr ⟨_, rfl, rfl⟩)
  | exact cd_lenD (.inl rfl)
  | exact cd_lenD (.inr ⟨_, rfl, rfl⟩)
  | exact cd_sum (.inl rfl)
  | exact cd_sorted (.inl rfl)
  | exact cd_list (.inl rfl)
  | exact cd_listT
  | exact eo_none
  | with_reducible apply eo_some
  | with_reducible apply ev_sliceScr
  | refine' ev_sliceI ?_ ?_ ?_ (.inl rfl)
  | with_reducible apply od_intC
  | with_reducible apply od_ixScr
  | refine' od_ixI (.inl rfl) ?_ ?_
  | refine' od_ixI (.inr ⟨_, rfl, rfl⟩) ?_ ?_
  | exact od_ixT rfl
  | exact od_inI (.inl rfl)
  | exact od_notinI (.inl rfl)
  | refine' od_cat (.inl rfl) (.inl rfl) ?_
  | ((with_reducible refine' ev_tup ?h ?r ?l); (case' h => repeat' wtm_at "ev"); (case' r => exact rfl); (case' l => exact Nat.le_of_ble_eq_true rfl))
  | (refine (show CMul _ _ from .inl ⟨?_, ?_⟩) <;> decide)
  | (refine (show CMul _ _ from .inr ⟨?_, ?_⟩) <;> decide)
  | (refine (show (_ : Prop) from ?_); assumption)
  | (refine (show CDiv _ _ from ⟨?_, ?_⟩) <;> omega)
  | (refine (show CPow _ _ from ⟨?_, ?_, ?_⟩) <;> decide)
  | omega
  | (simp only [Pz.len]; done)
  | (simp only [Pz.len, List.length_map, List.length_append, List.length_range, List.length_set, List.length_reverse]; omega))
/-! a statement's step: its values are reckoned, what is left is the way on -/
local macro_rules | `(tactic| wtm_at "st") => `(tactic| first
  | (refine' q_set (by assumption) ?h ?k; (case' h => repeat' wtm_at "ev"); (case' k => (intro _ _ _ _ _; try dsimp only)))
  | (refine' s_set (by assumption) ?h ?k; (case' h => repeat' wtm_at "ev"); (case' k => (intro _ _ _ _ _; try dsimp only)))
  | (refine' q_augS (by assumption) ?h1 ?h2 ?h3 ?r1 ?r2 ?s1 ?s2 ?k; (case' h1 => repeat' wtm_at "ev"); (case' h2 => repeat' wtm_at "ev"); (case' h3 => repeat' wtm_at "ev"); (case' r1 => exact rfl); (case' r2 => exact rfl); (case' s1 => try wtm_at "ev"); (case' s2 => try wtm_at "ev"); (case' k => (intro _ _ _ _ _; try dsimp only)))
  | (refine' s_augS (by assumption) ?h1 ?h2 ?h3 ?r1 ?r2 ?s1 ?s2 ?k; (case' h1 => repeat' wtm_at "ev"); (case' h2 => repeat' wtm_at "ev"); (case' h3 => repeat' wtm_at "ev"); (case' r1 => exact rfl); (case' r2 => exact rfl); (case' s1 => try wtm_at "ev"); (case' s2 => try wtm_at "ev"); (case' k => (intro _ _ _ _ _; try dsimp only)))
  | (refine' q_setLI (by assumption) ?h ?h1 ?h2 ?r1 ?s1 ?s2 ?k; (case' h => repeat' wtm_at "ev"); (case' h1 => repeat' wtm_at "ev"); (case' h2 => repeat' wtm_at "ev"); (case' r1 => exact rfl); (case' s1 => try wtm_at "ev"); (case' s2 => try wtm_at "ev"); (case' k => (intro _ _ _ _ _; try dsimp only)))
  | (refine' q_setL (by assumption) ?h ?h1 ?h2 ?r1 ?s1 ?s2 ?k; (case' h => repeat' wtm_at "ev"); (case' h1 => repeat' wtm_at "ev"); (case' h2 => repeat' wtm_at "ev"); (case' r1 => exact rfl); (case' s1 => try wtm_at "ev"); (case' s2 => try wtm_at "ev"); (case' k => (intro _ _ _ _ _; try dsimp only)))
  | (refine' s_setLI (by assumption) ?h ?h1 ?h2 ?r1 ?s1 ?s2 ?k; (case' h => repeat' wtm_at "ev"); (case' h1 => repeat' wtm_at "ev"); (case' h2 => repeat' wtm_at "ev"); (case' r1 => exact rfl); (case' s1 => try wtm_at "ev"); (case' s2 => try wtm_at "ev"); (case' k => (intro _ _ _ _ _; try dsimp only)))
  | (refine' s_setL (by assumption) ?h ?h1 ?h2 ?r1 ?s1 ?s2 ?k; (case' h => repeat' wtm_at "ev"); (case' h1 => repeat' wtm_at "ev"); (case' h2 => repeat' wtm_at "ev"); (case' r1 => exact rfl); (case' s1 => try wtm_at "ev"); (case' s2 => try wtm_at "ev"); (case' k => (intro _ _ _ _ _; try dsimp only)))
  | (refine' q_appI (by assumption) ?h1 ?h ?r1 ?r2 ?s ?k; (case' h1 => repeat' wtm_at "ev"); (case' h => repeat' wtm_at "ev"); (case' r1 => exact rfl); (case' r2 => exact rfl); (case' s => try wtm_at "ev"); (case' k => (intro _ _ _ _ _; try dsimp only)))
  | (refine' q_app (by assumption) ?h1 ?h ?r1 ?r2 ?s ?k; (case' h1 => repeat' wtm_at "ev"); (case' h => repeat' wtm_at "ev"); (case' r1 => exact rfl); (case' r2 => exact rfl); (case' s => try wtm_at "ev"); (case' k => (intro _ _ _ _ _; try dsimp only)))
  | (refine' s_appI (by assumption) ?h1 ?h ?r1 ?r2 ?s ?k; (case' h1 => repeat' wtm_at "ev"); (case' h => repeat' wtm_at "ev"); (case' r1 => exact rfl); (case' r2 => exact rfl); (case' s => try wtm_at "ev"); (case' k => (intro _ _ _ _ _; try dsimp only)))
  | (refine' s_app (by assumption) ?h1 ?h ?r1 ?r2 ?s ?k; (case' h1 => repeat' wtm_at "ev"); (case' h => repeat' wtm_at "ev"); (case' r1 => exact rfl); (case' r2 => exact rfl); (case' s => try wtm_at "ev"); (case' k => (intro _ _ _ _ _; try dsimp only)))
  | (refine' q_dput (by assumption) ?h ?h1 ?h2 ?r1 ?r2 ?s ?k; (case' h => repeat' wtm_at "ev"); (case' h1 => repeat' wtm_at "ev"); (case' h2 => repeat' wtm_at "ev"); (case' r1 => exact rfl); (case' r2 => exact rfl); (case' s => try wtm_at "ev"); (case' k => (intro _ _ _ _ _; try dsimp only)))
  | (refine' s_dput (by assumption) ?h ?h1 ?h2 ?r1 ?r2 ?s ?k; (case' h => repeat' wtm_at "ev"); (case' h1 => repeat' wtm_at "ev"); (case' h2 => repeat' wtm_at "ev"); (case' r1 => exact rfl); (case' r2 => exact rfl); (case' s => try wtm_at "ev"); (case' k => (intro _ _ _ _ _; try dsimp only)))
  | (refine' q_tup2 (by assumption) ?h ?k; (case' h => repeat' wtm_at "ev"); (case' k => (intro _ _ _ _ _; try dsimp only)))
  | (refine' q_drop (by assumption) ?h ?k; (case' h => repeat' wtm_at "ev"); (case' k => (intro _ _ _ _ _; try dsimp only)))
  | (refine' q_if (by assumption) ?h ?k1 ?k2; (case' h => repeat' wtm_at "ev"))
  | (refine' s_if (by assumption) ?h ?k1 ?k2; (case' h => repeat' wtm_at "ev"))
  | (refine' s_ret (by assumption) ?h ?k; (case' h => repeat' wtm_at "ev"); (case' k => (intro _ _ _ _ _ _ _; try dsimp only)))
  | (refine' q_ret (by assumption) ?h ?k; (case' h => repeat' wtm_at "ev"); (case' k => (intro _ _ _ _ _ _ _; try dsimp only)))
  | ((with_reducible refine' s_next (by assumption) ?k); (case' k => (intro _ _ _ _ _; try dsimp only)))
  | (with_reducible refine q_next ?_))

def ph_first : List MC → List Rv → List MC → Out → Prop := fun M rs M' o => ∃ bs ps n, M = [] ∧ rs = [rints bs, rints ps] ∧ Wh bs ps n ∧ M' = [] ∧ o = .ret (frs bs ps n)
abbrev sp_first_turn (K : PySem.W.Frag) : Sp := FSp K ph_first
theorem ok_first_turn {P : Program} {w : World} {K : PySem.W.Frag} {mg : Str → Option Value} {base : Heap} {ad : Ad} {fd : Fd} (T : Txt K mg w ad fd) : FnOk P w K mg base CX0 3 ad.a_first_turn fd.d_first_turn ["bores", "pins"] (sp_first_turn K) := by
  have G_spoiled := ok_spoiled (P := P) (base := base) T
  have b_spoiled := T.F_spoiled.binds (ps := ["bores", "pins"]) fun _ _ _ _ _ _ us hl => match us, hl with | [_, _], _ => rfl
  refine Fun.ok (k := 2) T.F_first_turn sc_first_turn (fun vs H Q E h => ?_) (fun cdv A outer s H vs Q E hr h => ?_)
  · exact h.len fun M rs M' o ⟨bs, ps, n, _, e, _⟩ => by rw [e]; rfl
  · have hu := hu_of hr
    refine ⟨_, (pss_cons (ps_set (i := 2) sc_first_turn.nd rfl (by first | exact Or.inl rfl | exact Or.inr rfl) (pe_call G_spoiled (hr.mono (by first | decide | omega)) rfl T.g_spoiled T.F_spoiled.kp b_spoiled .nil pass0 (pa_cons (pv 0) (pa_cons (pv 1) pa_nil))))
  (pss_cons (ps_for PassesOwn.never rfl (pi_range1 (by rfl) T.n_range (pa_cons (pe_callB (call_lenK (K := K) rfl) (by rfl) T.n_len (by decide +kernel) (pa_cons (pv 0) pa_nil)) pa_nil)) (pg_name (i := 3) sc_first_turn.nd rfl (by first | exact Or.inl rfl | exact Or.inr rfl))
  (pss_one (ps_if (pt_cmp (pc_dnotin hu (pv 3) (pv 2))) (pss_one (ps_ret (pv 3))) pss_nil)))
  (pss_one (ps_ret (pe_non))))), ?_⟩
    try dsimp only [cxOf, Cx.nox, Cx.wish, List.map]
    refine h.reading fun F As M rs M' o hΦ hL B S hB hA post => ?_
    obtain ⟨bs, ps, n, rfl, rfl, W, rfl, rfl⟩ := hΦ
    dsimp only at post
    obtain ⟨hb, hp, h0, h60⟩ := id W
    subst hb
    refine' q_set S (ev_call0 (d := .dct (spD bs ps bs.length bs.length)) ?h ?x ?p) ?k
    case' h => repeat' wtm_at "ev"
    case x => intro z; cases z
    case p => exact ⟨bs, ps, _, rfl, rfl, W, rfl, rfl⟩
    case k =>
    intro F As σ H S
    refine' q_forR1 S (n := bs.length) ?h ?hn (fun i M E => M = [] ∧ (∃ x, E = [some (rints bs), some (rints ps), some (.dat (.dct (spD bs ps bs.length bs.length))), x]) ∧ ∀ s : Nat, s < i → (fstBad bs ps bs.length bs.length (s : Nat)).isSome = true) ?h0 ?hb ?hd
    case h => repeat' wtm_at "ev"
    case hn => omega
    case h0 => exact ⟨rfl, ⟨_, rfl⟩, fun s hs => absurd hs (Nat.not_lt_zero _)⟩
    case hd =>
      rintro M E ⟨rfl, ⟨x, rfl⟩, hall⟩ F As σ H S
      wtm_at "st"
      rw [Int.toNat_natCast] at hall
      rw [frs_none hall] at post
      exact post _ _ _ _ _ _ _ (by assumption) rfl (by assumption)
    case hb =>
      rintro i M E hi ⟨rfl, ⟨x, rfl⟩, hall⟩ F As σ H S
      try dsimp only
      have hv : valG (spD bs ps bs.length bs.length) (sk (i : Int)) = _ := spD_val (bs := bs) (ps := ps) (n := bs.length) (s := (i : Int)) (by omega) hi (Nat.le_refl _)
      wtm_at "st"
      · intro hc F As σ H S
        try dsimp only
        wtm_at "st"
        rw [hv, Option.isSome_map, Bool.not_eq_true', Option.isSome_eq_false_iff, Option.isNone_iff_eq_none] at hc
        rw [frs_some (by omega) hc hall] at post
        exact post _ _ _ _ _ _ _ (by assumption) rfl (by assumption)
      · intro hc F As σ H S
        rw [hv, Option.isSome_map, Bool.not_eq_false'] at hc
        refine s_end S ⟨rfl, ⟨_, rfl⟩, fun s hs => ?_⟩ (Ele.refl _)
        by_cases e : s = i
        · rw [e]; exact hc
        · exact hall s (by omega)
def ph_gsp : List MC → List Rv → List MC → Out → Prop := fun M rs M' o => ∃ bs ps n, M = [] ∧ rs = [rints bs, rints ps] ∧ Wh bs ps n ∧ M' = [] ∧ o = .ret (.dct (lwD bs ps n n))
abbrev sp__law_g_spoiled (K : PySem.W.Frag) : Sp := FSp K ph_gsp
theorem ok__law_g_spoiled {P : Program} {w : World} {K : PySem.W.Frag} {mg : Str → Option Value} {base : Heap} {ad : Ad} {fd : Fd} (T : Txt K mg w ad fd) : FnOk P w K mg base CX0 1 ad.a__law_g_spoiled fd.d__law_g_spoiled ["bores", "pins"] (sp__law_g_spoiled K) := by
  refine Fun.ok (k := 0) T.F__law_g_spoiled sc__law_g_spoiled (fun vs H Q E h => ?_) (fun cdv A outer s H vs Q E hr h => ?_)
  · exact h.len fun M rs M' o ⟨bs, ps, n, _, e, _⟩ => by rw [e]; rfl
  · have hu := hu_of hr
    refine ⟨_, (pss_cons (ps_set (i := 2) sc__law_g_spoiled.nd rfl (by first | exact Or.inl rfl | exact Or.inr rfl) (pe_callB (call_lenK (K := K) rfl) (by rfl) T.n_len (by decide +kernel) (pa_cons (pv 0) pa_nil)))
  (pss_cons (ps_set (i := 3) sc__law_g_spoiled.nd rfl (by first | exact Or.inl rfl | exact Or.inr rfl) (pe_dnewK))
  (pss_cons (ps_for PassesOwn.never rfl (pi_range1 (by rfl) T.n_range (pa_cons (pv 2) pa_nil)) (pg_name (i := 4) sc__law_g_spoiled.nd rfl (by first | exact Or.inl rfl | exact Or.inr rfl))
  (pss_cons (ps_setLc (i := 5) rfl sc__law_g_spoiled.nd rfl rfl (sw_true rfl rfl rfl (by decide +kernel)) (pi_range1 (by rfl) T.n_range (pa_cons (pv 2) pa_nil)) (blkOk_by (own := [("at", 6)]) (N := N__law_g_spoiled) (sc := defScope s__law_g_spoiled) (by decide +kernel)) (fun _ _ _ _ _ => (pg_name (i := 6) sc__law_g_spoiled.nd rfl (by first | exact Or.inl rfl | exact Or.inr rfl))) (fun _ _ _ _ _ => (pts_one (pt_cmpR op_gt (pe_ix (ix_listK (K := K) rfl) (pv 1) (pe_op op_mod (pe_op op_sub (pv 6) (pv 4)) (pv 2)) (fun _ _ => rfl)) (pe_ix (ix_listK (K := K) rfl) (pv 0) (pv 6) (fun _ _ => rfl)) (nomark _)))) (fun _ _ _ _ _ => (pe_tup (pa_cons (pv 6) (pa_cons (pe_op op_mod (pe_op op_sub (pv 6) (pv 4)) (pv 2)) pa_nil)))))
  (pss_one (ps_if (pt_cmpR op_gt (pe_callB (call_lenK (K := K) rfl) (by rfl) T.n_len (by decide +kernel) (pa_cons (pv 5) pa_nil)) (pe_int) (nomark _)) (pss_one (ps_dput hu (pv 3) (pv 4) (pe_callB (cr_minPK (K := K) rfl hr.units rfl) (by rfl) T.n_min (by decide +kernel) (pa_cons (pv 5) pa_nil)) rfl)) pss_nil))))
  (pss_one (ps_ret (pv 3)))))), ?_⟩
    try dsimp only [cxOf, Cx.nox, Cx.wish, List.map]
    refine h.reading fun F As M rs M' o hΦ hL B S hB hA post => ?_
    obtain ⟨bs, ps, n, rfl, rfl, W, rfl, rfl⟩ := hΦ
    dsimp only at post
    obtain ⟨hb, hp, h0, h60⟩ := id W
    subst hb
    wtm_at "st"
    refine' q_set (by assumption) ev_dnewM ?_
    intro F As σ H S
    refine' q_forR1 S (n := bs.length) ?h ?hn (fun s M E => M = [.dct (lwD bs ps bs.length s)] ∧ ∃ x y z, E = [some (rints bs), some (rints ps), some (rint bs.length), some (.cel 0), x, y, z]) ?h0 ?hb ?hd
    case h => repeat' wtm_at "ev"
    case hn => omega
    case h0 => exact ⟨rfl, _, _, _, rfl⟩
    case hd =>
      rintro M E ⟨rfl, x, y, z, rfl⟩ F As σ H S
      refine s_retF S hB (ev_var rfl) rfl rfl (by rw [hA]; exact Nat.zero_le _) ?_
      intro v F As σ E H S rv
      rw [Int.toNat_natCast] at rv
      exact post _ _ _ _ _ _ _ S rfl rv
    case hb =>
      rintro s M E hs ⟨rfl, x, y, z, rfl⟩ F As σ H S
      try dsimp only
      refine' q_set S (ev_lcR (fun i => badAt bs ps bs.length s i) (fun i => pairD ((i : Int), ((i : Int) - s) % bs.length)) ?za ?zn ?zt ?ze) ?zk
      case za => repeat' wtm_at "ev"
      case zn => omega
      case zt =>
        intro i hi
        have hr := emod_rng h0 ((i : Int) - s)
        repeat' wtm_at "ev"
      case ze =>
        intro i hi _
        refine ev_tup (rs := [rint i, rint (((i : Int) - s) % bs.length)]) ?_ rfl (Nat.le_of_ble_eq_true rfl)
        repeat' wtm_at "ev"
      case zk =>
      intro F As σ H S
      try dsimp only
      have hlw : lwD bs ps bs.length (s + 1) = match fstBad bs ps bs.length bs.length (s : Nat) with
        | none => lwD bs ps bs.length s
        | some i => putG (lwD bs ps bs.length s) (sk (s : Nat)) (pairD ((i : Int), ((i : Int) - (s : Nat)) % bs.length)) := rfl
      have hkl : (lwD bs ps bs.length s).length ≤ bs.length := by
        obtain ⟨ks, hk⟩ := lwD_keys (bs := bs) (ps := ps) (n := bs.length) (m := s) (by omega)
        exact hk.le
      rw [Int.toNat_natCast] at S
      wtm_at "st"
      · intro hc F As σ H S
        try dsimp only
        cases hL : (List.range bs.length).filter (fun i => badAt bs ps bs.length s i) with
        | nil => rw [hL] at hc; simp at hc
        | cons i r =>
          obtain ⟨f1, f2⟩ := filter_range_cons hL
          rw [hL] at S
          have f3 : fstBad bs ps bs.length bs.length (s : Nat) = some i := f1
          rw [f3] at hlw
          refine' s_dput S (d := pairD ((i : Int), ((i : Int) - (s : Nat)) % bs.length)) ?hv ?hk1 ?hk2 ?zr1 ?zr2 ?zs ?zk2
          case hv =>
            refine ev_cb (ea_cons (ev_var rfl) ea_nil) (cd_minP (p := ((i : Int), ((i : Int) - (s : Nat)) % bs.length)) (ps := r.map fun (q : Nat) => ((q : Int), ((q : Int) - (s : Nat)) % bs.length)) (.inl ?_) ?_)
            · show Rv.dat (.lst (_ :: _)) = Rv.dat (.lst (_ :: _))
              rw [List.map_map]; rfl
            · intro q hq
              obtain ⟨j, hj, rfl⟩ := List.mem_map.mp hq
              have := f2 j hj
              show (i : Int) < (j : Int)
              omega
          case hk1 => repeat' wtm_at "ev"
          case hk2 => repeat' wtm_at "ev"
          case zr1 => exact rfl
          case zr2 => exact rfl
          case zs => omega
          case zk2 =>
          intro F As σ H S
          exact s_end S ⟨by rw [hlw]; rfl, _, _, _, rfl⟩ (Ele.refl _)
      · intro hc F As σ H S
        cases hL : (List.range bs.length).filter (fun i => badAt bs ps bs.length s i) with
        | cons i r => rw [hL] at hc; simp at hc
        | nil =>
          have f3 : fstBad bs ps bs.length bs.length (s : Nat) = none := filter_range_nil hL
          rw [f3] at hlw
          exact s_end S ⟨by rw [hlw], _, _, _, rfl⟩ (Ele.refl _)
end K84
set_option Elab.async false
set_option linter.all false
set_option maxRecDepth 100000
set_option maxHeartbeats 4000000
namespace K84
open PySem L2 DL
/-! ### the steps: one rule an expression, by its reading's head -/
local macro_rules | `(tactic| wtm_at "ev") => `(tactic| first
  | exact ev_var rfl
  | exact ev_int
  | exact ev_non
  | exact ev_bl
  | exact ev_str
  | exact ea_nil
  | with_reducible apply ea_cons
  | ((with_reducible refine' ev_isi ?a ?b ?c); (case' a => repeat' wtm_at "ev"); (case' b => exact rfl); (case' c => exact rfl))
  | with_reducible apply ev_cb
  | with_reducible apply ev_op
  | with_reducible apply ev_un
  | with_reducible apply et_test
  | with_reducible apply et_B
  | with_reducible apply et_not
  | with_reducible apply ev_isN
  | with_reducible apply ev_notN
  | with_reducible apply ev_notV
  | with_reducible apply et_and
  | with_reducible apply et_or
  | with_reducible apply ev_andV
  | with_reducible apply ev_orV
  | with_reducible apply ev_ifI
  | with_reducible apply ev_ifD
  | ((with_reducible refine' ev_dnotin ?a ?b ?c ?d); (case' a => repeat' wtm_at "ev"); (case' b => repeat' wtm_at "ev"); (case' c => exact rfl); (case' d => first | exact .inl rfl | exact .inr ⟨_, rfl, rfl⟩))
  | ((with_reducible refine' ev_din ?a ?b ?c ?d); (case' a => repeat' wtm_at "ev"); (case' b => repeat' wtm_at "ev"); (case' c => exact rfl); (case' d => first | exact .inl rfl | exact .inr ⟨_, rfl, rfl⟩))
  | with_reducible apply ev_lcLAI
  | with_reducible apply ev_lcLII
  | with_reducible apply ev_lcLA
  | with_reducible apply ev_lcLI
  | with_reducible apply ev_lcRAI
  | with_reducible apply ev_lcRI
  | with_reducible apply ev_lcRA
  | with_reducible apply ev_lcR
  | exact et_yes
  | with_reducible intro _
  | exact od_int
  | exact od_bool
  | exact od_eqI
  | exact od_neI
  | exact od_eqS
  | exact od_neS
  | exact ud_neg
  | exact cd_abs
  | exact cd_max2
  | exact cd_min2
  | exact cd_int
  | exact cd_intB
  | exact cd_lenScr
  | exact cd_lenT
  | exact cd_lenI (.inl rfl)
  | exact cd_lenI (.inr ⟨_, rfl, rfl⟩)
  | exact cd_len (.inl rfl)
  | exact cd_len (.inr ⟨_, rfl, rfl⟩)
  | exact cd_lenD (.inl rfl)
  | exact cd_lenD (.inr ⟨_, rfl, rfl⟩)
  | exact cd_sum (.inl rfl)
  | exact cd_sorted (.inl rfl)
  | exact cd_list (.inl rfl)
  | exact cd_listT
  | exact eo_none
  | with_reducible apply eo_some
  | with_reducible apply ev_sliceScr
  | refine' ev_sliceI ?_ ?_ ?_ (.inl rfl)
  | with_reducible apply od_intC
  | with_reducible apply od_ixScr
  | refine' od_ixI (.inl rfl) ?_ ?_
  | refine' od_ixI (.inr ⟨_, rfl, rfl⟩) ?_ ?_
  | exact od_ixT rfl
  | exact od_inI (.inl rfl)
  | exact od_notinI (.inl rfl)
  | refine' od_cat (.inl rfl) (.inl rfl) ?_
  | ((with_reducible refine' ev_tup ?h ?r ?l); (case' h => repeat' wtm_at "ev"); (case' r => exact rfl); (case' l => exact Nat.le_of_ble_eq_true rfl))
  | (refine (show CMul _ _ from .inl ⟨?_, ?_⟩) <;> decide)
  | (refine (show CMul _ _ from .inr ⟨?_, ?_⟩) <;> decide)
  | (refine (show (_ : Prop) from ?_); assumption)
  | (refine (show CDiv _ _ from ⟨?_, ?_⟩) <;> omega)
  | (refine (show CPow _ _ from ⟨?_, ?_, ?_⟩) <;> decide)
  | omega
  | (simp only [Pz.len]; done)
  | (simp only [Pz.len, List.length_map, List.length_append, List.length_range, List.length_set, List.length_reverse]; omega))
/-! a statement's step: its values are reckoned, what is left is the way on -/
local macro_rules | `(tactic| wtm_at "st") => `(tactic| first
  | (refine' q_set (by assumption) ?h ?k; (case' h => repeat' wtm_at "ev"); (case' k => (intro _ _ _ _ _; try dsimp only)))
  | (refine' s_set (by assumption) ?h ?k; (case' h => repeat' wtm_at "ev"); (case' k => (intro _ _ _ _ _; try dsimp only)))
  | (refine' q_augS (by assumption) ?h1 ?h2 ?h3 ?r1 ?r2 ?s1 ?s2 ?k; (case' h1 => repeat' wtm_at "ev"); (case' h2 => repeat' wtm_at "ev"); (case' h3 => repeat' wtm_at "ev"); (case' r1 => exact rfl); (case' r2 => exact rfl); (case' s1 => try wtm_at "ev"); (case' s2 => try wtm_at "ev"); (case' k => (intro _ _ _ _ _; try dsimp only)))
  | (refine' s_augS (by assumption) ?h1 ?h2 ?h3 ?r1 ?r2 ?s1 ?s2 ?k; (case' h1 => repeat' wtm_at "ev"); (case' h2 => repeat' wtm_at "ev"); (case' h3 => repeat' wtm_at "ev"); (case' r1 => exact rfl); (case' r2 => exact rfl); (case' s1 => try wtm_at "ev"); (case' s2 => try wtm_at "ev"); (case' k => (intro _ _ _ _ _; try dsimp only)))
  | (refine' q_setLI (by assumption) ?h ?h1 ?h2 ?r1 ?s1 ?s2 ?k; (case' h => repeat' wtm_at "ev"); (case' h1 => repeat' wtm_at "ev"); (case' h2 => repeat' wtm_at "ev"); (case' r1 => exact rfl); (case' s1 => try wtm_at "ev"); (case' s2 => try wtm_at "ev"); (case' k => (intro _ _ _ _ _; try dsimp only)))
  | (refine' q_setL (by assumption) ?h ?h1 ?h2 ?r1 ?s1 ?s2 ?k; (case' h => repeat' wtm_at "ev"); (case' h1 => repeat' wtm_at "ev"); (case' h2 => repeat' wtm_at "ev"); (case' r1 => exact rfl); (case' s1 => try wtm_at "ev"); (case' s2 => try wtm_at "ev"); (case' k => (intro _ _ _ _ _; try dsimp only)))
  | (refine' s_setLI (by assumption) ?h ?h1 ?h2 ?r1 ?s1 ?s2 ?k; (case' h => repeat' wtm_at "ev"); (case' h1 => repeat' wtm_at "ev"); (case' h2 => repeat' wtm_at "ev"); (case' r1 => exact rfl); (case' s1 => try wtm_at "ev"); (case' s2 => try wtm_at "ev"); (case' k => (intro _ _ _ _ _; try dsimp only)))
  | (refine' s_setL (by assumption) ?h ?h1 ?h2 ?r1 ?s1 ?s2 ?k; (case' h => repeat' wtm_at "ev"); (case' h1 => repeat' wtm_at "ev"); (case' h2 => repeat' wtm_at "ev"); (case' r1 => exact rfl); (case' s1 => try wtm_at "ev"); (case' s2 => try wtm_at "ev"); (case' k => (intro _ _ _ _ _; try dsimp only)))
  | (refine' q_appI (by assumption) ?h1 ?h ?r1 ?r2 ?s ?k; (case' h1 => repeat' wtm_at "ev"); (case' h => repeat' wtm_at "ev"); (case' r1 => exact rfl); (case' r2 => exact rfl); (case' s => try wtm_at "ev"); (case' k => (intro _ _ _ _ _; try dsimp only)))
  | (refine' q_app (by assumption) ?h1 ?h ?r1 ?r2 ?s ?k; (case' h1 => repeat' wtm_at "ev"); (case' h => repeat' wtm_at "ev"); (case' r1 => exact rfl); (case' r2 => exact rfl); (case' s => try wtm_at "ev"); (case' k => (intro _ _ _ _ _; try dsimp only)))
  | (refine' s_appI (by assumption) ?h1 ?h ?r1 ?r2 ?s ?k; (case' h1 => repeat' wtm_at "ev"); (case' h => repeat' wtm_at "ev"); (case' r1 => exact rfl); (case' r2 => exact rfl); (case' s => try wtm_at "ev"); (case' k => (intro _ _ _ _ _; try dsimp only)))
  | (refine' s_app (by assumption) ?h1 ?h ?r1 ?r2 ?s ?k; (case' h1 => repeat' wtm_at "ev"); (case' h => repeat' wtm_at "ev"); (case' r1 => exact rfl); (case' r2 => exact rfl); (case' s => try wtm_at "ev"); (case' k => (intro _ _ _ _ _; try dsimp only)))
  | (refine' q_dput (by assumption) ?h ?h1 ?h2 ?r1 ?r2 ?s ?k; (case' h => repeat' wtm_at "ev"); (case' h1 => repeat' wtm_at "ev"); (case' h2 => repeat' wtm_at "ev"); (case' r1 => exact rfl); (case' r2 => exact rfl); (case' s => try wtm_at "ev"); (case' k => (intro _ _ _ _ _; try dsimp only)))
  | (refine' s_dput (by assumption) ?h ?h1 ?h2 ?r1 ?r2 ?s ?k; (case' h => repeat' wtm_at "ev"); (case' h1 => repeat' wtm_at "ev"); (case' h2 => repeat' wtm_at "ev"); (case' r1 => exact rfl); (case' r2 => exact rfl); (case' s => try wtm_at "ev"); (case' k => (intro _ _ _ _ _; try dsimp only)))
  | (refine' q_tup2 (by assumption) ?h ?k; (case' h => repeat' wtm_at "ev"); (case' k => (intro _ _ _ _ _; try dsimp only)))
  | (refine' q_drop (by assumption) ?h ?k; (case' h => repeat' wtm_at "ev"); (case' k => (intro _ _ _ _ _; try dsimp only)))
  | (refine' q_if (by assumption) ?h ?k1 ?k2; (case' h => repeat' wtm_at "ev"))
  | (refine' s_if (by assumption) ?h ?k1 ?k2; (case' h => repeat' wtm_at "ev"))
  | (refine' s_ret (by assumption) ?h ?k; (case' h => repeat' wtm_at "ev"); (case' k => (intro _ _ _ _ _ _ _; try dsimp only)))
  | (refine' q_ret (by assumption) ?h ?k; (case' h => repeat' wtm_at "ev"); (case' k => (intro _ _ _ _ _ _ _; try dsimp only)))
  | ((with_reducible refine' s_next (by assumption) ?k); (case' k => (intro _ _ _ _ _; try dsimp only)))
  | (with_reducible refine q_next ?_))

abbrev sp__law_g_first (K : PySem.W.Frag) : Sp := FSp K ph_first
theorem ok__law_g_first {P : Program} {w : World} {K : PySem.W.Frag} {mg : Str → Option Value} {base : Heap} {ad : Ad} {fd : Fd} (T : Txt K mg w ad fd) : FnOk P w K mg base CX0 2 ad.a__law_g_first fd.d__law_g_first ["bores", "pins"] (sp__law_g_first K) := by
  have G__law_g_spoiled := ok__law_g_spoiled (P := P) (base := base) T
  have b__law_g_spoiled := T.F__law_g_spoiled.binds (ps := ["bores", "pins"]) fun _ _ _ _ _ _ us hl => match us, hl with | [_, _], _ => rfl
  refine Fun.ok (k := 1) T.F__law_g_first sc__law_g_first (fun vs H Q E h => ?_) (fun cdv A outer s H vs Q E hr h => ?_)
  · exact h.len fun M rs M' o ⟨bs, ps, n, _, e, _⟩ => by rw [e]; rfl
  · have hu := hu_of hr
    refine ⟨_, (pss_cons (ps_set (i := 2) sc__law_g_first.nd rfl (by first | exact Or.inl rfl | exact Or.inr rfl) (pe_call G__law_g_spoiled (hr.mono (by first | decide | omega)) rfl T.g__law_g_spoiled T.F__law_g_spoiled.kp b__law_g_spoiled .nil pass0 (pa_cons (pv 0) (pa_cons (pv 1) pa_nil))))
  (pss_cons (ps_setLc (i := 3) rfl sc__law_g_first.nd rfl rfl (sw_true rfl rfl rfl (by decide +kernel)) (pi_range1 (by rfl) T.n_range (pa_cons (pe_callB (call_lenK (K := K) rfl) (by rfl) T.n_len (by decide +kernel) (pa_cons (pv 0) pa_nil)) pa_nil)) (blkOk_by (own := [("shift", 4)]) (N := N__law_g_first) (sc := defScope s__law_g_first) (by decide +kernel)) (fun _ _ _ _ _ => (pg_name (i := 4) sc__law_g_first.nd rfl (by first | exact Or.inl rfl | exact Or.inr rfl))) (fun _ _ _ _ _ => (pts_one (pt_cmp (pc_dnotin hu (pv 4) (pv 2))))) (fun _ _ _ _ _ => (pv 4)))
  (pss_one (ps_ret (pe_ifExp (pt_truthK (K := K) rfl (pv 3)) (pe_ix (ix_listK (K := K) rfl) (pv 3) (pe_int) (fun _ _ => rfl)) (pe_non)))))), ?_⟩
    try dsimp only [cxOf, Cx.nox, Cx.wish, List.map]
    refine h.reading fun F As M rs M' o hΦ hL B S hB hA post => ?_
    obtain ⟨bs, ps, n, rfl, rfl, W, rfl, rfl⟩ := hΦ
    dsimp only at post
    obtain ⟨hb, hp, h0, h60⟩ := id W
    subst hb
    refine' q_set S (ev_call0 (d := .dct (lwD bs ps bs.length bs.length)) ?h ?x ?p) ?k
    case' h => repeat' wtm_at "ev"
    case x => intro z; cases z
    case p => exact ⟨bs, ps, _, rfl, rfl, W, rfl, rfl⟩
    case k =>
    intro F As σ H S
    try dsimp only
    refine' q_set S (ev_lcRI (fun i => !(valG (lwD bs ps bs.length bs.length) (sk (i : Int))).isSome) (fun i => (i : Int)) ?za ?zn ?zt ?ze) ?zk
    case za => repeat' wtm_at "ev"
    case zn => omega
    case zt =>
      intro i hi
      repeat' wtm_at "ev"
    case ze =>
      intro i hi _
      repeat' wtm_at "ev"
    case zk =>
    intro F As σ H S
    try dsimp only
    have hfl : ((List.range (Int.toNat (bs.length : Int))).filter fun (i : Nat) => !(valG (lwD bs ps bs.length bs.length) (sk (i : Int))).isSome) = (List.range bs.length).filter fun (s : Nat) => !(fstBad bs ps bs.length bs.length (s : Nat)).isSome := by
      rw [Int.toNat_natCast]
      refine List.filter_congr fun i hi => ?_
      have := List.mem_range.mp hi
      rw [lwD_val, if_pos (by omega), Option.isSome_map]
    rw [hfl] at S
    refine' s_ret (r := .dat (DL.frs bs ps bs.length)) (M' := []) S (ev_if (et_truL (ds := ((((List.range bs.length).filter fun (s : Nat) => !(fstBad bs ps bs.length bs.length (s : Nat)).isSome).map fun (i : Nat) => (i : Int)).map D.int)) ?za (.inl rfl)) ?z1 ?z2) ?zk
    case za => repeat' wtm_at "ev"
    case z1 =>
      intro hc
      cases hL : (List.range bs.length).filter (fun (s : Nat) => !(fstBad bs ps bs.length bs.length (s : Nat)).isSome) with
      | nil => rw [hL] at hc; simp at hc
      | cons i r =>
        obtain ⟨f1, f2⟩ := filter_range_cons hL
        have e : DL.frs bs ps bs.length = .int (i : Nat) := by unfold DL.frs; rw [f1]
        rw [e]
        exact ev_op (ev_var (r := rints ((i :: r).map fun (i : Nat) => (i : Int))) rfl) ev_int (od_ixL (ds := ((i :: r).map fun (i : Nat) => (i : Int)).map D.int) (.inl rfl) (atI_of (by decide) rfl))
    case z2 =>
      intro hc
      cases hL : (List.range bs.length).filter (fun (s : Nat) => !(fstBad bs ps bs.length bs.length (s : Nat)).isSome) with
      | cons i r => rw [hL] at hc; simp at hc
      | nil =>
        have f1 := filter_range_nil hL
        have e : DL.frs bs ps bs.length = .non := by unfold DL.frs; rw [f1]
        rw [e]
        exact ev_non
    case zk => exact fun v F As σ H S r => post _ _ _ _ _ _ _ S rfl r
def ph_match : Nat → List MC → List Rv → List MC → Out → Prop
  | 0, _, _, _, _ => False
  | n + 1, M, rs, M', o => ∃ d, M = [] ∧ rs = [.dat d, .dat d] ∧ Plain (n + 1) d ∧ M' = [] ∧ o = .ret (.bl true)
abbrev sp__law_matches (n : Nat) (K : PySem.W.Frag) : Sp := FSp K (ph_match n)
theorem no__law_matches {M : List MC} {rs : List Rv} {M' : List MC} {o : Out} (h : ph_match 0 M rs M' o) : False := h
theorem FSp.any {K : PySem.W.Frag} {Φ : List MC → List Rv → List MC → Out → Prop} {vs : List V} {H : Hp} {Q : VK} {X : XK} (h : FSp K Φ vs H Q X) : Φ h.choose_spec.choose_spec.choose h.choose_spec.choose_spec.choose_spec.choose h.choose_spec.choose_spec.choose_spec.choose_spec.choose h.choose_spec.choose_spec.choose_spec.choose_spec.choose_spec.choose := h.choose_spec.choose_spec.choose_spec.choose_spec.choose_spec.choose_spec.2.2.1
theorem ok__law_matches {P : Program} {w : World} {K : PySem.W.Frag} {mg : Str → Option Value} {base : Heap} {ad : Ad} {fd : Fd} (T : Txt K mg w ad fd) : ∀ n : Nat, FnOk P w K mg base CX0 (n + 1) ad.a__law_matches fd.d__law_matches ["answer", "due"] (sp__law_matches n K)
  | 0 => Fun.ok (k := 0) T.F__law_matches sc__law_matches (fun vs H Q E h => h.len fun M rs M' o z => (no__law_matches z).elim) (fun cdv A outer s H vs Q E hr h => (no__law_matches (FSp.any h)).elim)
  | n + 1 => by
    have G__law_matches := ok__law_matches (P := P) (base := base) T n
    have b__law_matches := T.F__law_matches.binds (ps := ["answer", "due"]) fun _ _ _ _ _ _ us hl => match us, hl with | [_, _], _ => rfl
    refine Fun.ok (k := n + 1) T.F__law_matches sc__law_matches (fun vs H Q E h => ?_) (fun cdv A outer s H vs Q E hr h => ?_)
    · exact h.len fun M rs M' o ⟨d, _, e, _⟩ => by rw [e]; rfl
    · have hu := hu_of hr
      refine ⟨_, (pss_cons (ps_if (PW.pt (pw_or (pt_cmp (pc_isN (pv 1))) (pw_or1 (pt_cmp (pc_isN (pv 0)))))) (pss_one (ps_ret ((pe_and (pe_cmp (pc_isN (pv 1))) (pe_one (pe_cmp (pc_isN (pv 0)))))))) pss_nil)
  (pss_cons (ps_if (PW.pt (pw_or (pt_val (pe_callB (call_isiK' (K := K) rfl) (by rfl) T.n_isinstance (by decide +kernel) (pa_cons (pv 1) (pa_cons (pe_bltn (v := .ty "bool") rfl T.n_bool (by decide +kernel) rfl) pa_nil)))) (pw_or1 (pt_val (pe_callB (call_isiK' (K := K) rfl) (by rfl) T.n_isinstance (by decide +kernel) (pa_cons (pv 0) (pa_cons (pe_bltn (v := .ty "bool") rfl T.n_bool (by decide +kernel) rfl) pa_nil))))))) (pss_one (ps_ret ((pe_and (pe_callB (call_isiK' (K := K) rfl) (by rfl) T.n_isinstance (by decide +kernel) (pa_cons (pv 1) (pa_cons (pe_bltn (v := .ty "bool") rfl T.n_bool (by decide +kernel) rfl) pa_nil))) (pe_and (pe_callB (call_isiK' (K := K) rfl) (by rfl) T.n_isinstance (by decide +kernel) (pa_cons (pv 0) (pa_cons (pe_bltn (v := .ty "bool") rfl T.n_bool (by decide +kernel) rfl) pa_nil))) (pe_one (pe_cmpR (op_eqDK (K := K) hr.units rfl) (pv 0) (pv 1) (nomark _)))))))) pss_nil)
  (pss_cons (ps_if (pt_val (pe_callB (call_isiK' (K := K) rfl) (by rfl) T.n_isinstance (by decide +kernel) (pa_cons (pv 1) (pa_cons (pe_bltn (v := .ty "int") rfl T.n_int (by decide +kernel) rfl) pa_nil)))) (pss_one (ps_ret ((pe_and (pe_callB (call_isiK' (K := K) rfl) (by rfl) T.n_isinstance (by decide +kernel) (pa_cons (pv 0) (pa_cons (pe_bltn (v := .ty "int") rfl T.n_int (by decide +kernel) rfl) pa_nil))) (pe_one (pe_cmpR (op_eqDK (K := K) hr.units rfl) (pv 0) (pv 1) (nomark _))))))) pss_nil)
  (pss_cons (ps_if (pt_val (pe_callB (call_isiK' (K := K) rfl) (by rfl) T.n_isinstance (by decide +kernel) (pa_cons (pv 1) (pa_cons (pe_bltn (v := .ty "str") rfl T.n_str (by decide +kernel) rfl) pa_nil)))) (pss_one (ps_ret ((pe_and (pe_callB (call_isiK' (K := K) rfl) (by rfl) T.n_isinstance (by decide +kernel) (pa_cons (pv 0) (pa_cons (pe_bltn (v := .ty "str") rfl T.n_str (by decide +kernel) rfl) pa_nil))) (pe_one (pe_cmpR (op_eqDK (K := K) hr.units rfl) (pv 0) (pv 1) (nomark _))))))) pss_nil)
  (pss_cons (ps_if (PW.pt (pw_and (pt_val (pe_callB (call_isiK' (K := K) rfl) (by rfl) T.n_isinstance (by decide +kernel) (pa_cons (pv 1) (pa_cons (pe_bltn (v := .ty "tuple") rfl T.n_tuple (by decide +kernel) rfl) pa_nil)))) (pw_and1 (pt_not (pt_val (pe_callB (call_isiK' (K := K) rfl) (by rfl) T.n_isinstance (by decide +kernel) (pa_cons (pv 0) (pa_cons (pe_bltn (v := .ty "tuple") rfl T.n_tuple (by decide +kernel) rfl) pa_nil)))))))) (pss_one (ps_ret (pe_bl))) pss_nil)
  (pss_cons (ps_if (PW.pt (pw_and (pt_val (pe_callB (call_isiK' (K := K) rfl) (by rfl) T.n_isinstance (by decide +kernel) (pa_cons (pv 1) (pa_cons (pe_bltn (v := .ty "list") rfl T.n_list (by decide +kernel) rfl) pa_nil)))) (pw_and1 (pt_not (pt_val (pe_callB (call_isiK' (K := K) rfl) (by rfl) T.n_isinstance (by decide +kernel) (pa_cons (pv 0) (pa_cons (pe_bltn (v := .ty "list") rfl T.n_list (by decide +kernel) rfl) pa_nil)))))))) (pss_one (ps_ret (pe_bl))) pss_nil)
  (pss_cons (ps_if (pt_cmpR op_ne (pe_callB (call_lenK (K := K) rfl) (by rfl) T.n_len (by decide +kernel) (pa_cons (pv 0) pa_nil)) (pe_callB (call_lenK (K := K) rfl) (by rfl) T.n_len (by decide +kernel) (pa_cons (pv 1) pa_nil)) (nomark _)) (pss_one (ps_ret (pe_bl))) pss_nil)
  (pss_cons (ps_for PassesOwn.never rfl (pi_range1 (by rfl) T.n_range (pa_cons (pe_callB (call_lenK (K := K) rfl) (by rfl) T.n_len (by decide +kernel) (pa_cons (pv 1) pa_nil)) pa_nil)) (pg_name (i := 2) sc__law_matches.nd rfl (by first | exact Or.inl rfl | exact Or.inr rfl))
  (pss_one (ps_if (pt_not (pt_val (pe_call G__law_matches (hr.mono (by first | decide | omega)) rfl T.g__law_matches T.F__law_matches.kp b__law_matches .nil pass0 (pa_cons (pe_ix (ix_seqK (K := K) rfl) (pv 0) (pv 2) (fun _ _ => rfl)) (pa_cons (pe_ix (ix_seqK (K := K) rfl) (pv 1) (pv 2) (fun _ _ => rfl)) pa_nil))))) (pss_one (ps_ret (pe_bl))) pss_nil)))
  (pss_one (ps_ret (pe_bl))))))))))), ?_⟩
      try dsimp only [cxOf, Cx.nox, Cx.wish, List.map]
      refine h.reading fun F As M rs M' o hΦ hL B S hB hA post => ?_
      obtain ⟨d, rfl, rfl, hp, rfl, rfl⟩ := hΦ
      dsimp only at post
      cases d with
      | non =>
        wtm_at "st"
        case k2 => intro hc; cases hc
        case k1 =>
        intro hc F As σ H S
        try dsimp only
        wtm_at "st"
        exact post _ _ _ _ _ _ _ (by assumption) rfl (by assumption)
      | bl b =>
        wtm_at "st"
        case k1 => intro hc; cases hc
        case k2 =>
        intro hc F As σ H S
        try dsimp only
        wtm_at "st"
        wtm_at "st"
        case k2 => intro hc; cases hc
        case k1 =>
        intro hc F As σ H S
        try dsimp only
        refine s_ret S (r := rbl (true && (true && true))) (M' := []) ?_ fun v F As σ H S r => post _ _ _ _ _ _ _ S rfl r
        repeat' first | exact od_eqS1 (.bl _) rfl | wtm_at "ev"
      | int b =>
        wtm_at "st"
        case k1 => intro hc; cases hc
        case k2 =>
        intro hc F As σ H S
        try dsimp only
        wtm_at "st"
        wtm_at "st"
        case k1 => intro hc; cases hc
        case k2 =>
        intro hc F As σ H S
        try dsimp only
        wtm_at "st"
        wtm_at "st"
        case k2 => intro hc; cases hc
        case k1 =>
        intro hc F As σ H S
        try dsimp only
        refine s_ret S (r := rbl (true && true)) (M' := []) ?_ fun v F As σ H S r => post _ _ _ _ _ _ _ S rfl r
        repeat' first | exact od_eqS1 (.int _) rfl | wtm_at "ev"
      | str b =>
        wtm_at "st"
        case k1 => intro hc; cases hc
        case k2 =>
        intro hc F As σ H S
        try dsimp only
        wtm_at "st"
        wtm_at "st"
        case k1 => intro hc; cases hc
        case k2 =>
        intro hc F As σ H S
        try dsimp only
        wtm_at "st"
        wtm_at "st"
        case k1 => intro hc; cases hc
        case k2 =>
        intro hc F As σ H S
        try dsimp only
        wtm_at "st"
        wtm_at "st"
        case k2 => intro hc; cases hc
        case k1 =>
        intro hc F As σ H S
        try dsimp only
        refine s_ret S (r := rbl (true && true)) (M' := []) ?_ fun v F As σ H S r => post _ _ _ _ _ _ _ S rfl r
        repeat' first | exact od_eqS1 (.str _) (by simp [SeqAt.shaped, PyData.canLay0, PyData.depth]; exact hp) | wtm_at "ev"
      | lst ds =>
        obtain ⟨hl, hp⟩ := hp
        wtm_at "st"
        case k1 => intro hc; cases hc
        case k2 =>
        intro hc F As σ H S
        try dsimp only
        wtm_at "st"
        wtm_at "st"
        case k1 => intro hc; cases hc
        case k2 =>
        intro hc F As σ H S
        try dsimp only
        wtm_at "st"
        wtm_at "st"
        case k1 => intro hc; cases hc
        case k2 =>
        intro hc F As σ H S
        try dsimp only
        wtm_at "st"
        wtm_at "st"
        case k1 => intro hc; cases hc
        case k2 =>
        intro hc F As σ H S
        try dsimp only
        wtm_at "st"
        wtm_at "st"
        case k1 => intro hc; cases hc
        case k2 =>
        intro hc F As σ H S
        try dsimp only
        wtm_at "st"
        wtm_at "st"
        case k1 => intro hc; cases hc
        case k2 =>
        intro hc F As σ H S
        try dsimp only
        wtm_at "st"
        wtm_at "st"
        case k1 => intro hc; simp at hc
        case k2 =>
        intro hc F As σ H S
        try dsimp only
        wtm_at "st"
        refine' q_forR1 (by assumption) (n := ds.length) ?h ?hn (fun i M E => M = [] ∧ ∃ x, E = [some (.dat (.lst ds)), some (.dat (.lst ds)), x]) ?h0 ?hb ?hd
        case h => repeat' wtm_at "ev"
        case hn => omega
        case h0 => exact ⟨rfl, _, rfl⟩
        case hd =>
          rintro M E ⟨rfl, x, rfl⟩ F As σ H S
          wtm_at "st"
          exact post _ _ _ _ _ _ _ (by assumption) rfl (by assumption)
        case hb =>
          rintro i M E hi ⟨rfl, x, rfl⟩ F As σ H S
          try dsimp only
          have hi : i < ds.length := by omega
          have hg : atI ds (i : Nat) = some ds[i] := atI_of (by omega) (by rw [Int.toNat_natCast]; exact List.getElem?_eq_getElem hi)
          refine' s_if S (b := false) (et_not (b := true) (et_B (ev_call0 (d := .bl true) (ea_cons (ev_op (ev_var rfl) (ev_var rfl) ?g1) (ea_cons (ev_op (ev_var rfl) (ev_var rfl) ?g2) ea_nil)) ?g3 ?g4))) ?g5 ?g6
          case g1 => exact od_ixD (.inl rfl) hg
          case g2 => exact od_ixD (.inl rfl) hg
          case g3 => intro z; cases z
          case g4 =>
            cases n with
            | zero => exact (hp _ (List.getElem_mem hi)).elim
            | succ n => exact ⟨_, rfl, rfl, hp _ (List.getElem_mem hi), rfl, rfl⟩
          case g5 => intro hc; cases hc
          case g6 =>
            intro hc F As σ H S
            exact s_end S ⟨rfl, _, rfl⟩ (Ele.refl _)
      | tup ds =>
        obtain ⟨hl, hp⟩ := hp
        wtm_at "st"
        case k1 => intro hc; cases hc
        case k2 =>
        intro hc F As σ H S
        try dsimp only
        wtm_at "st"
        wtm_at "st"
        case k1 => intro hc; cases hc
        case k2 =>
        intro hc F As σ H S
        try dsimp only
        wtm_at "st"
        wtm_at "st"
        case k1 => intro hc; cases hc
        case k2 =>
        intro hc F As σ H S
        try dsimp only
        wtm_at "st"
        wtm_at "st"
        case k1 => intro hc; cases hc
        case k2 =>
        intro hc F As σ H S
        try dsimp only
        wtm_at "st"
        wtm_at "st"
        case k1 => intro hc; cases hc
        case k2 =>
        intro hc F As σ H S
        try dsimp only
        wtm_at "st"
        wtm_at "st"
        case k1 => intro hc; cases hc
        case k2 =>
        intro hc F As σ H S
        try dsimp only
        wtm_at "st"
        wtm_at "st"
        case k1 => intro hc; simp at hc
        case k2 =>
        intro hc F As σ H S
        try dsimp only
        wtm_at "st"
        refine' q_forR1 (by assumption) (n := ds.length) ?h ?hn (fun i M E => M = [] ∧ ∃ x, E = [some (.dat (.tup ds)), some (.dat (.tup ds)), x]) ?h0 ?hb ?hd
        case h => repeat' wtm_at "ev"
        case hn => omega
        case h0 => exact ⟨rfl, _, rfl⟩
        case hd =>
          rintro M E ⟨rfl, x, rfl⟩ F As σ H S
          wtm_at "st"
          exact post _ _ _ _ _ _ _ (by assumption) rfl (by assumption)
        case hb =>
          rintro i M E hi ⟨rfl, x, rfl⟩ F As σ H S
          try dsimp only
          have hi : i < ds.length := by omega
          have hg : atI ds (i : Nat) = some ds[i] := atI_of (by omega) (by rw [Int.toNat_natCast]; exact List.getElem?_eq_getElem hi)
          refine' s_if S (b := false) (et_not (b := true) (et_B (ev_call0 (d := .bl true) (ea_cons (ev_op (ev_var rfl) (ev_var rfl) ?g1) (ea_cons (ev_op (ev_var rfl) (ev_var rfl) ?g2) ea_nil)) ?g3 ?g4))) ?g5 ?g6
          case g1 => exact od_ixDT hg
          case g2 => exact od_ixDT hg
          case g3 => intro z; cases z
          case g4 =>
            cases n with
            | zero => exact (hp _ (List.getElem_mem hi)).elim
            | succ n => exact ⟨_, rfl, rfl, hp _ (List.getElem_mem hi), rfl, rfl⟩
          case g5 => intro hc; cases hc
          case g6 =>
            intro hc F As σ H S
            exact s_end S ⟨rfl, _, rfl⟩ (Ele.refl _)
      | dct _ => exact hp.elim
      | ins _ _ => exact hp.elim
      | scr _ => exact hp.elim
end K84
set_option Elab.async false
set_option linter.all false
set_option maxRecDepth 100000
set_option maxHeartbeats 4000000
namespace K84
open PySem L2 DL
/-! ### the steps: one rule an expression, by its reading's head -/
local macro_rules | `(tactic| wtm_at "ev") => `(tactic| first
  | exact ev_var rfl
  | exact ev_int
  | exact ev_non
  | exact ev_bl
  | exact ev_str
  | exact ea_nil
  | with_reducible apply ea_cons
  | ((with_reducible refine' ev_isi ?a ?b ?c); (case' a => repeat' wtm_at "ev"); (case' b => exact rfl); (case' c => exact rfl))
  | with_reducible apply ev_cb
  | with_reducible apply ev_op
  | with_reducible apply ev_un
  | with_reducible apply et_test
  | with_reducible apply et_B
  | with_reducible apply et_not
  | with_reducible apply ev_isN
  | with_reducible apply ev_notN
  | with_reducible apply ev_notV
  | with_reducible apply et_and
  | with_reducible apply et_or
  | with_reducible apply ev_andV
  | with_reducible apply ev_orV
  | with_reducible apply ev_ifI
  | with_reducible apply ev_ifD
  | ((with_reducible refine' ev_dnotin ?a ?b ?c ?d); (case' a => repeat' wtm_at "ev"); (case' b => repeat' wtm_at "ev"); (case' c => exact rfl); (case' d => first | exact .inl rfl | exact .inr ⟨_, rfl, rfl⟩))
  | ((with_reducible refine' ev_din ?a ?b ?c ?d); (case' a => repeat' wtm_at "ev"); (case' b => repeat' wtm_at "ev"); (case' c => exact rfl); (case' d => first | exact .inl rfl | exact .inr ⟨_, rfl, rfl⟩))
  | with_reducible apply ev_lcLAI
  | with_reducible apply ev_lcLII
  | with_reducible apply ev_lcLA
  | with_reducible apply ev_lcLI
  | with_reducible apply ev_lcRAI
  | with_reducible apply ev_lcRI
  | with_reducible apply ev_lcRA
  | with_reducible apply ev_lcR
  | exact et_yes
  | with_reducible intro _
  | exact od_int
  | exact od_bool
  | exact od_eqI
  | exact od_neI
  | exact od_eqS
  | exact od_neS
  | exact ud_neg
  | exact cd_abs
  | exact cd_max2
  | exact cd_min2
  | exact cd_int
  | exact cd_intB
  | exact cd_lenScr
  | exact cd_lenT
  | exact cd_lenI (.inl rfl)
  | exact cd_lenI (.inr ⟨_, rfl, rfl⟩)
  | exact cd_len (.inl rfl)
  | exact cd_len (.inr ⟨_, rfl, rfl⟩)
  | exact cd_lenD (.inl rfl)
  | exact cd_lenD (.inr ⟨_, rfl, rfl⟩)
  | exact cd_sum (.inl rfl)
  | exact cd_sorted (.inl rfl)
  | exact cd_list (.inl rfl)
  | exact cd_listT
  | exact eo_none
  | with_reducible apply eo_some
  | with_reducible apply ev_sliceScr
  | refine' ev_sliceI ?_ ?_ ?_ (.inl rfl)
  | with_reducible apply od_intC
  | with_reducible apply od_ixScr
  | refine' od_ixI (.inl rfl) ?_ ?_
  | refine' od_ixI (.inr ⟨_, rfl, rfl⟩) ?_ ?_
  | exact od_ixT rfl
  | exact od_inI (.inl rfl)
  | exact od_notinI (.inl rfl)
  | refine' od_cat (.inl rfl) (.inl rfl) ?_
  | ((with_reducible refine' ev_tup ?h ?r ?l); (case' h => repeat' wtm_at "ev"); (case' r => exact rfl); (case' l => exact Nat.le_of_ble_eq_true rfl))
  | (refine (show CMul _ _ from .inl ⟨?_, ?_⟩) <;> decide)
  | (refine (show CMul _ _ from .inr ⟨?_, ?_⟩) <;> decide)
  | (refine (show (_ : Prop) from ?_); assumption)
  | (refine (show CDiv _ _ from ⟨?_, ?_⟩) <;> omega)
  | (refine (show CPow _ _ from ⟨?_, ?_, ?_⟩) <;> decide)
  | omega
  | (simp only [Pz.len]; done)
  | (simp only [Pz.len, List.length_map, List.length_append, List.length_range, List.length_set, List.length_reverse]; omega))
/-! a statement's step: its values are reckoned, what is left is the way on -/
local macro_rules | `(tactic| wtm_at "st") => `(tactic| first
  | (refine' q_set (by assumption) ?h ?k; (case' h => repeat' wtm_at "ev"); (case' k => (intro _ _ _ _ _; try dsimp only)))
  | (refine' s_set (by assumption) ?h ?k; (case' h => repeat' wtm_at "ev"); (case' k => (intro _ _ _ _ _; try dsimp only)))
  | (refine' q_augS (by assumption) ?h1 ?h2 ?h3 ?r1 ?r2 ?s1 ?s2 ?k; (case' h1 => repeat' wtm_at "ev"); (case' h2 => repeat' wtm_at "ev"); (case' h3 => repeat' wtm_at "ev"); (case' r1 => exact rfl); (case' r2 => exact rfl); (case' s1 => try wtm_at "ev"); (case' s2 => try wtm_at "ev"); (case' k => (intro _ _ _ _ _; try dsimp only)))
  | (refine' s_augS (by assumption) ?h1 ?h2 ?h3 ?r1 ?r2 ?s1 ?s2 ?k; (case' h1 => repeat' wtm_at "ev"); (case' h2 => repeat' wtm_at "ev"); (case' h3 => repeat' wtm_at "ev"); (case' r1 => exact rfl); (case' r2 => exact rfl); (case' s1 => try wtm_at "ev"); (case' s2 => try wtm_at "ev"); (case' k => (intro _ _ _ _ _; try dsimp only)))
  | (refine' q_setLI (by assumption) ?h ?h1 ?h2 ?r1 ?s1 ?s2 ?k; (case' h => repeat' wtm_at "ev"); (case' h1 => repeat' wtm_at "ev"); (case' h2 => repeat' wtm_at "ev"); (case' r1 => exact rfl); (case' s1 => try wtm_at "ev"); (case' s2 => try wtm_at "ev"); (case' k => (intro _ _ _ _ _; try dsimp only)))
  | (refine' q_setL (by assumption) ?h ?h1 ?h2 ?r1 ?s1 ?s2 ?k; (case' h => repeat' wtm_at "ev"); (case' h1 => repeat' wtm_at "ev"); (case' h2 => repeat' wtm_at "ev"); (case' r1 => exact rfl); (case' s1 => try wtm_at "ev"); (case' s2 => try wtm_at "ev"); (case' k => (intro _ _ _ _ _; try dsimp only)))
  | (refine' s_setLI (by assumption) ?h ?h1 ?h2 ?r1 ?s1 ?s2 ?k; (case' h => repeat' wtm_at "ev"); (case' h1 => repeat' wtm_at "ev"); (case' h2 => repeat' wtm_at "ev"); (case' r1 => exact rfl); (case' s1 => try wtm_at "ev"); (case' s2 => try wtm_at "ev"); (case' k => (intro _ _ _ _ _; try dsimp only)))
  | (refine' s_setL (by assumption) ?h ?h1 ?h2 ?r1 ?s1 ?s2 ?k; (case' h => repeat' wtm_at "ev"); (case' h1 => repeat' wtm_at "ev"); (case' h2 => repeat' wtm_at "ev"); (case' r1 => exact rfl); (case' s1 => try wtm_at "ev"); (case' s2 => try wtm_at "ev"); (case' k => (intro _ _ _ _ _; try dsimp only)))
  | (refine' q_appI (by assumption) ?h1 ?h ?r1 ?r2 ?s ?k; (case' h1 => repeat' wtm_at "ev"); (case' h => repeat' wtm_at "ev"); (case' r1 => exact rfl); (case' r2 => exact rfl); (case' s => try wtm_at "ev"); (case' k => (intro _ _ _ _ _; try dsimp only)))
  | (refine' q_app (by assumption) ?h1 ?h ?r1 ?r2 ?s ?k; (case' h1 => repeat' wtm_at "ev"); (case' h => repeat' wtm_at "ev"); (case' r1 => exact rfl); (case' r2 => exact rfl); (case' s => try wtm_at "ev"); (case' k => (intro _ _ _ _ _; try dsimp only)))
  | (refine' s_appI (by assumption) ?h1 ?h ?r1 ?r2 ?s ?k; (case' h1 => repeat' wtm_at "ev"); (case' h => repeat' wtm_at "ev"); (case' r1 => exact rfl); (case' r2 => exact rfl); (case' s => try wtm_at "ev"); (case' k => (intro _ _ _ _ _; try dsimp only)))
  | (refine' s_app (by assumption) ?h1 ?h ?r1 ?r2 ?s ?k; (case' h1 => repeat' wtm_at "ev"); (case' h => repeat' wtm_at "ev"); (case' r1 => exact rfl); (case' r2 => exact rfl); (case' s => try wtm_at "ev"); (case' k => (intro _ _ _ _ _; try dsimp only)))
  | (refine' q_dput (by assumption) ?h ?h1 ?h2 ?r1 ?r2 ?s ?k; (case' h => repeat' wtm_at "ev"); (case' h1 => repeat' wtm_at "ev"); (case' h2 => repeat' wtm_at "ev"); (case' r1 => exact rfl); (case' r2 => exact rfl); (case' s => try wtm_at "ev"); (case' k => (intro _ _ _ _ _; try dsimp only)))
  | (refine' s_dput (by assumption) ?h ?h1 ?h2 ?r1 ?r2 ?s ?k; (case' h => repeat' wtm_at "ev"); (case' h1 => repeat' wtm_at "ev"); (case' h2 => repeat' wtm_at "ev"); (case' r1 => exact rfl); (case' r2 => exact rfl); (case' s => try wtm_at "ev"); (case' k => (intro _ _ _ _ _; try dsimp only)))
  | (refine' q_tup2 (by assumption) ?h ?k; (case' h => repeat' wtm_at "ev"); (case' k => (intro _ _ _ _ _; try dsimp only)))
  | (refine' q_drop (by assumption) ?h ?k; (case' h => repeat' wtm_at "ev"); (case' k => (intro _ _ _ _ _; try dsimp only)))
  | (refine' q_if (by assumption) ?h ?k1 ?k2; (case' h => repeat' wtm_at "ev"))
  | (refine' s_if (by assumption) ?h ?k1 ?k2; (case' h => repeat' wtm_at "ev"))
  | (refine' s_ret (by assumption) ?h ?k; (case' h => repeat' wtm_at "ev"); (case' k => (intro _ _ _ _ _ _ _; try dsimp only)))
  | (refine' q_ret (by assumption) ?h ?k; (case' h => repeat' wtm_at "ev"); (case' k => (intro _ _ _ _ _ _ _; try dsimp only)))
  | ((with_reducible refine' s_next (by assumption) ?k); (case' k => (intro _ _ _ _ _; try dsimp only)))
  | (with_reducible refine q_next ?_))

/-- two dicts that hold the same under every key, the keys numbers -/
structure Same (ans due : List (Key × D)) : Prop where
  len : ans.length = due.length
  due : ∀ (i : Nat) (k : Key) (d : D), due[i]? = some (k, d) → valG due k = some d ∧ valG ans k = some d ∧ Plain 4 d
  int : ∀ (i : Nat) (k : Key) (d : D), ans[i]? = some (k, d) → ∃ n : Int, k = Sum.inl n
  sz : ans.length ≤ 1000
def ph_same : List MC → List Rv → List MC → Out → Prop := fun M rs M' o => ∃ ans due, M = [] ∧ rs = [.dat (.dct ans), .dat (.dct due)] ∧ Same ans due ∧ M' = [] ∧ o = .ret (.bl true)
abbrev sp__law_g_same_dict (K : PySem.W.Frag) : Sp := FSp K ph_same
theorem ok__law_g_same_dict {P : Program} {w : World} {K : PySem.W.Frag} {mg : Str → Option Value} {base : Heap} {ad : Ad} {fd : Fd} (T : Txt K mg w ad fd) : FnOk P w K mg base CX0 6 ad.a__law_g_same_dict fd.d__law_g_same_dict ["answer", "due"] (sp__law_g_same_dict K) := by
  have G__law_matches := ok__law_matches (P := P) (base := base) T 4
  have b__law_matches := T.F__law_matches.binds (ps := ["answer", "due"]) fun _ _ _ _ _ _ us hl => match us, hl with | [_, _], _ => rfl
  refine Fun.ok (k := 5) T.F__law_g_same_dict sc__law_g_same_dict (fun vs H Q E h => ?_) (fun cdv A outer s H vs Q E hr h => ?_)
  · exact h.len fun M rs M' o ⟨bs, ps, _, e, _⟩ => by rw [e]; rfl
  · have hu := hu_of hr
    refine ⟨_, (pss_cons (ps_if (PW.pt (pw_or (pt_not (pt_val (pe_callB (call_isiK' (K := K) rfl) (by rfl) T.n_isinstance (by decide +kernel) (pa_cons (pv 0) (pa_cons (pe_bltn (v := .ty "dict") rfl T.n_dict (by decide +kernel) rfl) pa_nil))))) (pw_or1 (pt_cmpR op_ne (pe_callB call_lenD (by rfl) T.n_len (by decide +kernel) (pa_cons (pv 0) pa_nil)) (pe_callB call_lenD (by rfl) T.n_len (by decide +kernel) (pa_cons (pv 1) pa_nil)) (nomark _))))) (pss_one (ps_ret (pe_bl))) pss_nil)
  (pss_cons (ps_lock (ps_for PassesOwn.never rfl (pi_keys (pv 1)) (pg_name (i := 2) sc__law_g_same_dict.nd rfl (by first | exact Or.inl rfl | exact Or.inr rfl))
  (pss_one (ps_if (PW.pt (pw_or (pt_cmp (pc_dnotin hu (pv 2) (pv 0))) (pw_or1 (pt_not (pt_val (pe_call G__law_matches (hr.mono (by first | decide | omega)) rfl T.g__law_matches T.F__law_matches.kp b__law_matches .nil pass0 (pa_cons (pe_dget hu (pv 0) (pv 2) (fun _ _ => rfl)) (pa_cons (pe_dget hu (pv 1) (pv 2) (fun _ _ => rfl)) pa_nil)))))))) (pss_one (ps_ret (pe_bl))) pss_nil))))
  (pss_cons (ps_lock (ps_for PassesOwn.never rfl (pi_keys (pv 0)) (pg_name (i := 2) sc__law_g_same_dict.nd rfl (by first | exact Or.inl rfl | exact Or.inr rfl))
  (pss_one (ps_if (PW.pt (pw_or (pt_val (pe_callB (call_isiK' (K := K) rfl) (by rfl) T.n_isinstance (by decide +kernel) (pa_cons (pv 2) (pa_cons (pe_bltn (v := .ty "bool") rfl T.n_bool (by decide +kernel) rfl) pa_nil)))) (pw_or1 (pt_not (pt_val (pe_callB (call_isiK' (K := K) rfl) (by rfl) T.n_isinstance (by decide +kernel) (pa_cons (pv 2) (pa_cons (pe_bltn (v := .ty "int") rfl T.n_int (by decide +kernel) rfl) pa_nil)))))))) (pss_one (ps_ret (pe_bl))) pss_nil))))
  (pss_one (ps_ret (pe_bl)))))), ?_⟩
    try dsimp only [cxOf, Cx.nox, Cx.wish, List.map]
    refine h.reading fun F As M rs M' o hΦ hL B S hB hA post => ?_
    obtain ⟨ans, due, rfl, rfl, W, rfl, rfl⟩ := hΦ
    dsimp only at post
    wtm_at "st"
    case k1 => intro hc; simp [W.len] at hc
    case k2 =>
    intro hc F As σ H S
    try dsimp only
    wtm_at "st"
    refine q_lockK (by assumption) rfl (Nat.le_of_ble_eq_true rfl) (fun a ws od F' σ' H' D' n k d ha pa hv L hk hj fin => ?_) ?_
    · rename_i S
      obtain ⟨h1, h2, h3⟩ := W.due n k d hk
      obtain ⟨u0, hb0, rb⟩ := S.slots.2 0 _ rfl
      obtain ⟨b, ws0, rfl, hb, pb⟩ := R.dct_inv rb
      have g0 : σ'[0]? = some (some (.ref b)) := (L.same 0 (by decide)).trans hb0
      have g1 : σ'[1]? = some (some (.ref a)) := (L.same 1 (by decide)).trans hv
      rcases pa.val k with ⟨z, _⟩ | ⟨d1, v1, z, e1, r1⟩
      · rw [h1] at z; cases z
      rw [h1] at z; cases z
      rcases pb.val k with ⟨z, _⟩ | ⟨d0, v0, z, e0, r0⟩
      · rw [h2] at z; cases z
      rw [h2] at z; cases z
      have D0 : DGet H' b (kV k) (some v0) := e0 ▸ .inl ⟨ws0, k, L.rd ha hb, rfl, rfl⟩
      have D1 : DGet H' a (kV k) (some v1) := e1 ▸ .inl ⟨ws, k, L.rd ha ha, rfl, rfl⟩
      refine ⟨_, hj, _, g0, b, some v0, rfl, D0, false, rfl, ?_⟩
      dsimp only
      rw [if_neg Bool.false_ne_true]
      refine ⟨_, g0, _, hj, b, v0, rfl, D0, _, g1, _, hj, a, v1, rfl, D1, ?_⟩
      refine FSp.at0 (xs := [d, d]) (d := .bl true) L.sta (P2.cons ((R.apart ha h3 r0).mono L.sta.bF) (P2.single ((R.apart ha h3 r1).mono L.sta.bF))) ⟨d, rfl, rfl, h3, rfl, rfl⟩ fun v F2 H2 S2 e2 rv => ?_
      cases rv
      exact ⟨true, rfl, fin _ _ ⟨S2, L.same⟩⟩
    intro F As σ H S
    refine q_lockK S rfl (Nat.le_of_ble_eq_true rfl) (fun a ws od F' σ' H' D' n k d ha pa hv L hk hj fin => ?_) ?_
    · obtain ⟨m, rfl⟩ := W.int n k d hk
      refine ⟨_, hj, _, .ty "bool", .type "int", .type "bool", false, rfl, .ty "bool", R.ty (.int m) (fun _ _ z => z) rfl, kit_ty rfl, false, rfl, ?_⟩
      dsimp only
      rw [if_neg Bool.false_ne_true]
      exact ⟨_, hj, _, .ty "int", .type "int", .type "int", true, rfl, .ty "int", R.ty (F := H') (.int m) (fun _ _ z => z) rfl, kit_ty rfl, true, rfl, fin _ _ L⟩
    intro F As σ H S
    wtm_at "st"
    exact post _ _ _ _ _ _ _ (by assumption) rfl (by assumption)
end K84
set_option Elab.async false
set_option linter.all false
set_option maxRecDepth 100000
set_option maxHeartbeats 4000000
namespace K84
open PySem L2 DL
/-! ### the steps: one rule an expression, by its reading's head -/
local macro_rules | `(tactic| wtm_at "ev") => `(tactic| first
  | exact ev_var rfl
  | exact ev_int
  | exact ev_non
  | exact ev_bl
  | exact ev_str
  | exact ea_nil
  | with_reducible apply ea_cons
  | ((with_reducible refine' ev_isi ?a ?b ?c); (case' a => repeat' wtm_at "ev"); (case' b => exact rfl); (case' c => exact rfl))
  | with_reducible apply ev_cb
  | with_reducible apply ev_op
  | with_reducible apply ev_un
  | with_reducible apply et_test
  | with_reducible apply et_B
  | with_reducible apply et_not
  | with_reducible apply ev_isN
  | with_reducible apply ev_notN
  | with_reducible apply ev_notV
  | with_reducible apply et_and
  | with_reducible apply et_or
  | with_reducible apply ev_andV
  | with_reducible apply ev_orV
  | with_reducible apply ev_ifI
  | with_reducible apply ev_ifD
  | ((with_reducible refine' ev_dnotin ?a ?b ?c ?d); (case' a => repeat' wtm_at "ev"); (case' b => repeat' wtm_at "ev"); (case' c => exact rfl); (case' d => first | exact .inl rfl | exact .inr ⟨_, rfl, rfl⟩))
  | ((with_reducible refine' ev_din ?a ?b ?c ?d); (case' a => repeat' wtm_at "ev"); (case' b => repeat' wtm_at "ev"); (case' c => exact rfl); (case' d => first | exact .inl rfl | exact .inr ⟨_, rfl, rfl⟩))
  | with_reducible apply ev_lcLAI
  | with_reducible apply ev_lcLII
  | with_reducible apply ev_lcLA
  | with_reducible apply ev_lcLI
  | with_reducible apply ev_lcRAI
  | with_reducible apply ev_lcRI
  | with_reducible apply ev_lcRA
  | with_reducible apply ev_lcR
  | exact et_yes
  | with_reducible intro _
  | exact od_int
  | exact od_bool
  | exact od_eqI
  | exact od_neI
  | exact od_eqS
  | exact od_neS
  | exact ud_neg
  | exact cd_abs
  | exact cd_max2
  | exact cd_min2
  | exact cd_int
  | exact cd_intB
  | exact cd_lenScr
  | exact cd_lenT
  | exact cd_lenI (.inl rfl)
  | exact cd_lenI (.inr ⟨_, rfl, rfl⟩)
  | exact cd_len (.inl rfl)
  | exact cd_len (.inr ⟨_, rfl, rfl⟩)
  | exact cd_lenD (.inl rfl)
  | exact cd_lenD (.inr ⟨_, rfl, rfl⟩)
  | exact cd_sum (.inl rfl)
  | exact cd_sorted (.inl rfl)
  | exact cd_list (.inl rfl)
  | exact cd_listT
  | exact eo_none
  | with_reducible apply eo_some
  | with_reducible apply ev_sliceScr
  | refine' ev_sliceI ?_ ?_ ?_ (.inl rfl)
  | with_reducible apply od_intC
  | with_reducible apply od_ixScr
  | refine' od_ixI (.inl rfl) ?_ ?_
  | refine' od_ixI (.inr ⟨_, rfl, rfl⟩) ?_ ?_
  | exact od_ixT rfl
  | exact od_inI (.inl rfl)
  | exact od_notinI (.inl rfl)
  | refine' od_cat (.inl rfl) (.inl rfl) ?_
  | ((with_reducible refine' ev_tup ?h ?r ?l); (case' h => repeat' wtm_at "ev"); (case' r => exact rfl); (case' l => exact Nat.le_of_ble_eq_true rfl))
  | (refine (show CMul _ _ from .inl ⟨?_, ?_⟩) <;> decide)
  | (refine (show CMul _ _ from .inr ⟨?_, ?_⟩) <;> decide)
  | (refine (show (_ : Prop) from ?_); assumption)
  | (refine (show CDiv _ _ from ⟨?_, ?_⟩) <;> omega)
  | (refine (show CPow _ _ from ⟨?_, ?_, ?_⟩) <;> decide)
  | omega
  | (simp only [Pz.len]; done)
  | (simp only [Pz.len, List.length_map, List.length_append, List.length_range, List.length_set, List.length_reverse]; omega))
/-! a statement's step: its values are reckoned, what is left is the way on -/
local macro_rules | `(tactic| wtm_at "st") => `(tactic| first
  | (refine' q_set (by assumption) ?h ?k; (case' h => repeat' wtm_at "ev"); (case' k => (intro _ _ _ _ _; try dsimp only)))
  | (refine' s_set (by assumption) ?h ?k; (case' h => repeat' wtm_at "ev"); (case' k => (intro _ _ _ _ _; try dsimp only)))
  | (refine' q_augS (by assumption) ?h1 ?h2 ?h3 ?r1 ?r2 ?s1 ?s2 ?k; (case' h1 => repeat' wtm_at "ev"); (case' h2 => repeat' wtm_at "ev"); (case' h3 => repeat' wtm_at "ev"); (case' r1 => exact rfl); (case' r2 => exact rfl); (case' s1 => try wtm_at "ev"); (case' s2 => try wtm_at "ev"); (case' k => (intro _ _ _ _ _; try dsimp only)))
  | (refine' s_augS (by assumption) ?h1 ?h2 ?h3 ?r1 ?r2 ?s1 ?s2 ?k; (case' h1 => repeat' wtm_at "ev"); (case' h2 => repeat' wtm_at "ev"); (case' h3 => repeat' wtm_at "ev"); (case' r1 => exact rfl); (case' r2 => exact rfl); (case' s1 => try wtm_at "ev"); (case' s2 => try wtm_at "ev"); (case' k => (intro _ _ _ _ _; try dsimp only)))
  | (refine' q_setLI (by assumption) ?h ?h1 ?h2 ?r1 ?s1 ?s2 ?k; (case' h => repeat' wtm_at "ev"); (case' h1 => repeat' wtm_at "ev"); (case' h2 => repeat' wtm_at "ev"); (case' r1 => exact rfl); (case' s1 => try wtm_at "ev"); (case' s2 => try wtm_at "ev"); (case' k => (intro _ _ _ _ _; try dsimp only)))
  | (refine' q_setL (by assumption) ?h ?h1 ?h2 ?r1 ?s1 ?s2 ?k; (case' h => repeat' wtm_at "ev"); (case' h1 => repeat' wtm_at "ev"); (case' h2 => repeat' wtm_at "ev"); (case' r1 => exact rfl); (case' s1 => try wtm_at "ev"); (case' s2 => try wtm_at "ev"); (case' k => (intro _ _ _ _ _; try dsimp only)))
  | (refine' s_setLI (by assumption) ?h ?h1 ?h2 ?r1 ?s1 ?s2 ?k; (case' h => repeat' wtm_at "ev"); (case' h1 => repeat' wtm_at "ev"); (case' h2 => repeat' wtm_at "ev"); (case' r1 => exact rfl); (case' s1 => try wtm_at "ev"); (case' s2 => try wtm_at "ev"); (case' k => (intro _ _ _ _ _; try dsimp only)))
  | (refine' s_setL (by assumption) ?h ?h1 ?h2 ?r1 ?s1 ?s2 ?k; (case' h => repeat' wtm_at "ev"); (case' h1 => repeat' wtm_at "ev"); (case' h2 => repeat' wtm_at "ev"); (case' r1 => exact rfl); (case' s1 => try wtm_at "ev"); (case' s2 => try wtm_at "ev"); (case' k => (intro _ _ _ _ _; try dsimp only)))
  | (refine' q_appI (by assumption) ?h1 ?h ?r1 ?r2 ?s ?k; (case' h1 => repeat' wtm_at "ev"); (case' h => repeat' wtm_at "ev"); (case' r1 => exact rfl); (case' r2 => exact rfl); (case' s => try wtm_at "ev"); (case' k => (intro _ _ _ _ _; try dsimp only)))
  | (refine' q_app (by assumption) ?h1 ?h ?r1 ?r2 ?s ?k; (case' h1 => repeat' wtm_at "ev"); (case' h => repeat' wtm_at "ev"); (case' r1 => exact rfl); (case' r2 => exact rfl); (case' s => try wtm_at "ev"); (case' k => (intro _ _ _ _ _; try dsimp only)))
  | (refine' s_appI (by assumption) ?h1 ?h ?r1 ?r2 ?s ?k; (case' h1 => repeat' wtm_at "ev"); (case' h => repeat' wtm_at "ev"); (case' r1 => exact rfl); (case' r2 => exact rfl); (case' s => try wtm_at "ev"); (case' k => (intro _ _ _ _ _; try dsimp only)))
  | (refine' s_app (by assumption) ?h1 ?h ?r1 ?r2 ?s ?k; (case' h1 => repeat' wtm_at "ev"); (case' h => repeat' wtm_at "ev"); (case' r1 => exact rfl); (case' r2 => exact rfl); (case' s => try wtm_at "ev"); (case' k => (intro _ _ _ _ _; try dsimp only)))
  | (refine' q_dput (by assumption) ?h ?h1 ?h2 ?r1 ?r2 ?s ?k; (case' h => repeat' wtm_at "ev"); (case' h1 => repeat' wtm_at "ev"); (case' h2 => repeat' wtm_at "ev"); (case' r1 => exact rfl); (case' r2 => exact rfl); (case' s => try wtm_at "ev"); (case' k => (intro _ _ _ _ _; try dsimp only)))
  | (refine' s_dput (by assumption) ?h ?h1 ?h2 ?r1 ?r2 ?s ?k; (case' h => repeat' wtm_at "ev"); (case' h1 => repeat' wtm_at "ev"); (case' h2 => repeat' wtm_at "ev"); (case' r1 => exact rfl); (case' r2 => exact rfl); (case' s => try wtm_at "ev"); (case' k => (intro _ _ _ _ _; try dsimp only)))
  | (refine' q_tup2 (by assumption) ?h ?k; (case' h => repeat' wtm_at "ev"); (case' k => (intro _ _ _ _ _; try dsimp only)))
  | (refine' q_drop (by assumption) ?h ?k; (case' h => repeat' wtm_at "ev"); (case' k => (intro _ _ _ _ _; try dsimp only)))
  | (refine' q_if (by assumption) ?h ?k1 ?k2; (case' h => repeat' wtm_at "ev"))
  | (refine' s_if (by assumption) ?h ?k1 ?k2; (case' h => repeat' wtm_at "ev"))
  | (refine' s_ret (by assumption) ?h ?k; (case' h => repeat' wtm_at "ev"); (case' k => (intro _ _ _ _ _ _ _; try dsimp only)))
  | (refine' q_ret (by assumption) ?h ?k; (case' h => repeat' wtm_at "ev"); (case' k => (intro _ _ _ _ _ _ _; try dsimp only)))
  | ((with_reducible refine' s_next (by assumption) ?k); (case' k => (intro _ _ _ _ _; try dsimp only)))
  | (with_reducible refine q_next ?_))


def ph_shifts : List MC → List Rv → List MC → Out → Prop := fun M rs M' o => ∃ bs ps n, M = [] ∧ rs = [rints bs, rints ps] ∧ Wh bs ps n ∧ M' = [] ∧ o = .ret (.lst ((spS bs ps n).map D.int))
abbrev sp__law_k84_shifts (K : PySem.W.Frag) : Sp := FSp K ph_shifts
theorem same_sp {bs ps : List Int} {n : Nat} (W : Wh bs ps n) : Same (spD bs ps n n) (lwD bs ps n n) :=
  ⟨len_same W.h0, fun i k d h => due_same W.h0 h, fun i k d h => int_same W.h0 h, by
    obtain ⟨ks, hk⟩ := spD_keys (bs := bs) (ps := ps) W.h0 (m := n)
    have := hk.le
    have := W.h60
    omega⟩
theorem ok__law_k84_shifts {P : Program} {w : World} {K : PySem.W.Frag} {mg : Str → Option Value} {base : Heap} {ad : Ad} {fd : Fd} (T : Txt K mg w ad fd) : FnOk P w K mg base CX0 7 ad.a__law_k84_shifts fd.d__law_k84_shifts ["bores", "pins"] (sp__law_k84_shifts K) := by
  have G__law_g_first := ok__law_g_first (P := P) (base := base) T
  have b__law_g_first := T.F__law_g_first.binds (ps := ["bores", "pins"]) fun _ _ _ _ _ _ us hl => match us, hl with | [_, _], _ => rfl
  have G__law_g_same_dict := ok__law_g_same_dict (P := P) (base := base) T
  have b__law_g_same_dict := T.F__law_g_same_dict.binds (ps := ["answer", "due"]) fun _ _ _ _ _ _ us hl => match us, hl with | [_, _], _ => rfl
  have G__law_g_spoiled := ok__law_g_spoiled (P := P) (base := base) T
  have b__law_g_spoiled := T.F__law_g_spoiled.binds (ps := ["bores", "pins"]) fun _ _ _ _ _ _ us hl => match us, hl with | [_, _], _ => rfl
  have G__law_matches := ok__law_matches (P := P) (base := base) T 4
  have b__law_matches := T.F__law_matches.binds (ps := ["answer", "due"]) fun _ _ _ _ _ _ us hl => match us, hl with | [_, _], _ => rfl
  have G_first_turn := ok_first_turn (P := P) (base := base) T
  have b_first_turn := T.F_first_turn.binds (ps := ["bores", "pins"]) fun _ _ _ _ _ _ us hl => match us, hl with | [_, _], _ => rfl
  have G_spoiled := ok_spoiled (P := P) (base := base) T
  have b_spoiled := T.F_spoiled.binds (ps := ["bores", "pins"]) fun _ _ _ _ _ _ us hl => match us, hl with | [_, _], _ => rfl
  refine Fun.ok (k := 6) T.F__law_k84_shifts sc__law_k84_shifts (fun vs H Q E h => ?_) (fun cdv A outer s H vs Q E hr h => ?_)
  · exact h.len fun M rs M' o ⟨bs, ps, n, _, e, _⟩ => by rw [e]; rfl
  · have hu := hu_of hr
    refine ⟨_, (pss_cons (ps_set (i := 2) sc__law_k84_shifts.nd rfl (by first | exact Or.inl rfl | exact Or.inr rfl) (pe_call G_spoiled (hr.mono (by first | decide | omega)) rfl T.g_spoiled T.F_spoiled.kp b_spoiled .nil pass0 (pa_cons (pe_callTy (call_listK (K := K) rfl) (by rfl) T.n_list (by decide +kernel) (pa_cons (pv 0) pa_nil)) (pa_cons (pe_callTy (call_listK (K := K) rfl) (by rfl) T.n_list (by decide +kernel) (pa_cons (pv 1) pa_nil)) pa_nil))))
  (pss_cons (ps_if (pt_not (pt_val (pe_call G__law_g_same_dict (hr.mono (by first | decide | omega)) rfl T.g__law_g_same_dict T.F__law_g_same_dict.kp b__law_g_same_dict .nil pass0 (pa_cons (pv 2) (pa_cons (pe_call G__law_g_spoiled (hr.mono (by first | decide | omega)) rfl T.g__law_g_spoiled T.F__law_g_spoiled.kp b__law_g_spoiled .nil pass0 (pa_cons (pv 0) (pa_cons (pv 1) pa_nil))) pa_nil))))) (pss_one (ps_ret (pe_non))) pss_nil)
  (pss_cons (ps_if (pt_not (pt_val (pe_call G__law_matches (hr.mono (by first | decide | omega)) rfl T.g__law_matches T.F__law_matches.kp b__law_matches .nil pass0 (pa_cons (pe_call G_first_turn (hr.mono (by first | decide | omega)) rfl T.g_first_turn T.F_first_turn.kp b_first_turn .nil pass0 (pa_cons (pe_callTy (call_listK (K := K) rfl) (by rfl) T.n_list (by decide +kernel) (pa_cons (pv 0) pa_nil)) (pa_cons (pe_callTy (call_listK (K := K) rfl) (by rfl) T.n_list (by decide +kernel) (pa_cons (pv 1) pa_nil)) pa_nil))) (pa_cons (pe_call G__law_g_first (hr.mono (by first | decide | omega)) rfl T.g__law_g_first T.F__law_g_first.kp b__law_g_first .nil pass0 (pa_cons (pv 0) (pa_cons (pv 1) pa_nil))) pa_nil))))) (pss_one (ps_ret (pe_non))) pss_nil)
  (pss_one (ps_ret (pe_callB (cr_sortedK (K := K) rfl) (by rfl) T.n_sorted (by decide +kernel) (pa_cons (pe_listKeys rfl (pv 2) rfl T.n_list (by decide +kernel)) pa_nil))))))), ?_⟩
    try dsimp only [cxOf, Cx.nox, Cx.wish, List.map]
    refine h.reading fun F As M rs M' o hΦ hL B S hB hA post => ?_
    obtain ⟨bs, ps, n, rfl, rfl, W, rfl, rfl⟩ := hΦ
    dsimp only at post
    obtain ⟨hb, hp, h0, h60⟩ := id W
    refine' q_set S (ev_call0 (d := .dct (spD bs ps n n)) ?h ?x ?p) ?k
    case' h => repeat' wtm_at "ev"
    case x => intro z; cases z
    case p => exact ⟨bs, ps, _, rfl, rfl, W, rfl, rfl⟩
    case k =>
    intro F As σ H S
    try dsimp only
    refine' q_if S (b := false) (et_not (b := true) (et_B (ev_call0 (d := .bl true) (ea_cons ?h1 (ea_cons (ev_call0 (d := .dct (lwD bs ps n n)) ?h2 ?h3 ?h4) ea_nil)) ?h5 ?h6))) ?k1 ?k2
    case h1 => repeat' wtm_at "ev"
    case h2 => repeat' wtm_at "ev"
    case h3 => intro z; cases z
    case h4 => exact ⟨bs, ps, _, rfl, rfl, W, rfl, rfl⟩
    case h5 => intro z; cases z
    case h6 => exact ⟨_, _, rfl, rfl, same_sp W, rfl, rfl⟩
    case k1 => intro hc; cases hc
    case k2 =>
    intro hc F As σ H S
    try dsimp only
    wtm_at "st"
    refine' q_if (by assumption) (b := false) (et_not (b := true) (et_B (ev_call0 (d := .bl true) (ea_cons (ev_call0 (d := DL.frs bs ps n) ?h7 ?h8 ?h9) (ea_cons (ev_call0 (d := DL.frs bs ps n) ?h2 ?h3 ?h4) ea_nil)) ?h5 ?h6))) ?k1 ?k2
    case h7 => repeat' wtm_at "ev"
    case h8 => intro z; cases z
    case h9 => exact ⟨bs, ps, _, rfl, rfl, W, rfl, rfl⟩
    case h2 => repeat' wtm_at "ev"
    case h3 => intro z; cases z
    case h4 => exact ⟨bs, ps, _, rfl, rfl, W, rfl, rfl⟩
    case h5 => intro z; cases z
    case h6 => exact ⟨_, rfl, rfl, Plain.frs4 _ _ _, rfl, rfl⟩
    case k1 => intro hc; cases hc
    case k2 =>
    intro hc F As σ H S
    try dsimp only
    wtm_at "st"
    obtain ⟨ks, hk⟩ := spD_keys (bs := bs) (ps := ps) h0 (m := n)
    refine' s_ret (by assumption) (ev_cb (ea_cons (ev_listKeys (kvs := spD bs ps n n) (ks := ks) ?h1 ?h2 ?h3) ea_nil) (cd_sorted (ns := ks) (.inl rfl))) ?k
    case h1 => repeat' wtm_at "ev"
    case h2 => exact .inl rfl
    case h3 => exact hk.eq
    case k =>
    rw [sort_spS h0 hk.nd (keys_bad h0 hk)]
    intro v F As σ H S r
    exact post _ _ _ _ _ _ _ S rfl r
def ph_tur : List MC → List Rv → List MC → Out → Prop := fun M rs M' o => ∃ w m, M = [] ∧ rs = [rints w, rint m] ∧ 0 ≤ m ∧ m ≤ w.length ∧ w.length ≤ 100 ∧ M' = [] ∧ o = .ret (.lst ((tur w m).map D.int))
abbrev sp__law_k84_turned (K : PySem.W.Frag) : Sp := FSp K ph_tur
theorem ok__law_k84_turned {P : Program} {w : World} {K : PySem.W.Frag} {mg : Str → Option Value} {base : Heap} {ad : Ad} {fd : Fd} (T : Txt K mg w ad fd) : FnOk P w K mg base CX0 1 ad.a__law_k84_turned fd.d__law_k84_turned ["wheel", "many"] (sp__law_k84_turned K) := by
  refine Fun.ok (k := 0) T.F__law_k84_turned sc__law_k84_turned (fun vs H Q E h => ?_) (fun cdv A outer s H vs Q E hr h => ?_)
  · exact h.len fun M rs M' o ⟨bs, ps, _, e, _⟩ => by rw [e]; rfl
  · have hu := hu_of hr
    refine ⟨_, (pss_one (ps_ret (pe_op op_cat (pe_slice (sl_listK (K := K) rfl) (pv 0) (po_some (pe_op op_sub (pe_callB (call_lenK (K := K) rfl) (by rfl) T.n_len (by decide +kernel) (pa_cons (pv 0) pa_nil)) (pv 1))) po_none) (pe_slice (sl_listK (K := K) rfl) (pv 0) po_none (po_some (pe_op op_sub (pe_callB (call_lenK (K := K) rfl) (by rfl) T.n_len (by decide +kernel) (pa_cons (pv 0) pa_nil)) (pv 1))))))), ?_⟩
    try dsimp only [cxOf, Cx.nox, Cx.wish, List.map]
    refine h.reading fun F As M rs M' o hΦ hL B S hB hA post => ?_
    obtain ⟨wh, m, rfl, rfl, h0, h1, h2, rfl, rfl⟩ := hΦ
    dsimp only at post
    have z1 := cutD_len wh (some (wh.length - m)) none
    have z2 := cutD_len wh none (some (wh.length - m))
    refine' s_ret S (ev_op (ev_sliceI (lo := some (wh.length - m)) (hi := none) (ns := wh) (M1 := []) (M2 := []) (ev_var rfl) ?za ?zb (.inl rfl)) (ev_sliceI (lo := none) (hi := some (wh.length - m)) (ns := wh) (M1 := []) (M2 := []) (ev_var rfl) ?zc ?zd (.inl rfl)) (od_cat (.inl rfl) (.inl rfl) ?ze)) ?k
    case za => repeat' wtm_at "ev"
    case zb => repeat' wtm_at "ev"
    case zc => repeat' wtm_at "ev"
    case zd => repeat' wtm_at "ev"
    case ze => rw [List.length_map, List.length_map]; omega
    case k =>
    intro v F As σ H S r
    exact post _ _ _ _ _ _ _ S rfl (by rw [← tur_cut h0 h1, List.map_append]; exact r)
/-- the two draws of an exchange -/
def exA (p : Pz) (w : List Int) : Int := (draw p w.length).1
def alk (p : Pz) (w : List Int) : List Int := ((List.range w.length).filter fun (i : Nat) => decide (gI w (i : Int) = gI w (exA p w))).map fun (i : Nat) => (i : Int)
def exP (p : Pz) (w : List Int) : Pz := (draw (draw p w.length).2 (alk p w).length).2
def ph_exch : List MC → List Rv → List MC → Out → Prop := fun M rs M' o => ∃ p w, M = [pmc p] ∧ rs = [.cel 0, rints w] ∧ 0 < w.length ∧ w.length ≤ 100 ∧ M' = [pmc (exP p w)] ∧ o = .ret (.lst (w.map D.int))
abbrev sp__law_k84_exchanged (K : PySem.W.Frag) : Sp := FSp K ph_exch
theorem ok__law_k84_exchanged {P : Program} {w : World} {K : PySem.W.Frag} {mg : Str → Option Value} {base : Heap} {ad : Ad} {fd : Fd} (T : Txt K mg w ad fd) : FnOk P w K mg base CX0 2 ad.a__law_k84_exchanged fd.d__law_k84_exchanged ["purse", "wheel"] (sp__law_k84_exchanged K) := by
  have G__law_draw := ok__law_draw (P := P) (base := base) T
  have b__law_draw := T.F__law_draw.binds (ps := ["purse", "many"]) fun _ _ _ _ _ _ us hl => match us, hl with | [_, _], _ => rfl
  refine Fun.ok (k := 1) T.F__law_k84_exchanged sc__law_k84_exchanged (fun vs H Q E h => ?_) (fun cdv A outer s H vs Q E hr h => ?_)
  · exact h.len fun M rs M' o ⟨bs, ps, _, e, _⟩ => by rw [e]; rfl
  · have hu := hu_of hr
    refine ⟨_, (pss_cons (ps_set (i := 2) sc__law_k84_exchanged.nd rfl (by first | exact Or.inl rfl | exact Or.inr rfl) (pe_call G__law_draw (hr.mono (by first | decide | omega)) rfl T.g__law_draw T.F__law_draw.kp b__law_draw .nil pass0 (pa_cons (pv 0) (pa_cons (pe_callB (call_lenK (K := K) rfl) (by rfl) T.n_len (by decide +kernel) (pa_cons (pv 1) pa_nil)) pa_nil))))
  (pss_cons (ps_setLc (i := 3) rfl sc__law_k84_exchanged.nd rfl rfl (sw_true rfl rfl rfl (by decide +kernel)) (pi_range1 (by rfl) T.n_range (pa_cons (pe_callB (call_lenK (K := K) rfl) (by rfl) T.n_len (by decide +kernel) (pa_cons (pv 1) pa_nil)) pa_nil)) (blkOk_by (own := [("place", 4)]) (N := N__law_k84_exchanged) (sc := defScope s__law_k84_exchanged) (by decide +kernel)) (fun _ _ _ _ _ => (pg_name (i := 4) sc__law_k84_exchanged.nd rfl (by first | exact Or.inl rfl | exact Or.inr rfl))) (fun _ _ _ _ _ => (pts_one (pt_cmpR op_eq (pe_ix (ix_listK (K := K) rfl) (pv 1) (pv 4) (fun _ _ => rfl)) (pe_ix (ix_listK (K := K) rfl) (pv 1) (pv 2) (fun _ _ => rfl)) (nomark _)))) (fun _ _ _ _ _ => (pv 4)))
  (pss_cons (ps_set (i := 5) sc__law_k84_exchanged.nd rfl (by first | exact Or.inl rfl | exact Or.inr rfl) (pe_ix (ix_listK (K := K) rfl) (pv 3) (pe_call G__law_draw (hr.mono (by first | decide | omega)) rfl T.g__law_draw T.F__law_draw.kp b__law_draw .nil pass0 (pa_cons (pv 0) (pa_cons (pe_callB (call_lenK (K := K) rfl) (by rfl) T.n_len (by decide +kernel) (pa_cons (pv 3) pa_nil)) pa_nil))) (fun _ _ => rfl)))
  (pss_cons (ps_set (i := 6) sc__law_k84_exchanged.nd rfl (by first | exact Or.inl rfl | exact Or.inr rfl) (pe_callTy (call_listK (K := K) rfl) (by rfl) T.n_list (by decide +kernel) (pa_cons (pv 1) pa_nil)))
  (pss_cons (ps_asg (pe_ix (ix_listK (K := K) rfl) (pv 1) (pv 5) (fun _ _ => rfl)) (pg_sub (pv 6) (pv 2) set_list))
  (pss_cons (ps_asg (pe_ix (ix_listK (K := K) rfl) (pv 1) (pv 2) (fun _ _ => rfl)) (pg_sub (pv 6) (pv 5) set_list))
  (pss_one (ps_ret (pv 6))))))))), ?_⟩
    try dsimp only [cxOf, Cx.nox, Cx.wish, List.map]
    refine h.reading fun F As M rs M' o hΦ hL B S hB hA post => ?_
    obtain ⟨p, wh, rfl, rfl, h0, h1, rfl, rfl⟩ := hΦ
    dsimp only at post
    have ra := draw_rng (p := p) (m := wh.length) (by omega)
    refine' q_set S (ev_draw (m := wh.length) (p := p) ?h ?h1 ?h2 ?h3) ?k
    case' h => repeat' wtm_at "ev"
    case h1 => exact rfl
    case h2 => omega
    case h3 => omega
    case k =>
    intro F As σ H S
    try dsimp only
    refine' q_set S (ev_lcRI (fun i => decide (gI wh (i : Int) = gI wh (exA p wh))) (fun i => (i : Int)) ?za ?zn ?zt ?ze) ?zk
    case za => repeat' wtm_at "ev"
    case zn => omega
    case zt =>
      intro i hi
      repeat' wtm_at "ev"
    case ze =>
      intro i hi _
      repeat' wtm_at "ev"
    case zk =>
    intro F As σ H S
    try dsimp only
    have hal : (List.range (Int.toNat (wh.length : Int))).filter (fun (i : Nat) => decide (gI wh (i : Int) = gI wh (exA p wh))) = (List.range wh.length).filter (fun (i : Nat) => decide (gI wh (i : Int) = gI wh (exA p wh))) := by rw [Int.toNat_natCast]
    rw [hal] at S
    have hmem : (exA p wh) ∈ alk p wh := List.mem_map.mpr ⟨(exA p wh).toNat, List.mem_filter.mpr ⟨List.mem_range.mpr (by unfold exA; omega), by
      rw [show (((exA p wh).toNat : Nat) : Int) = exA p wh from Int.toNat_of_nonneg ra.1]; exact decide_eq_true rfl⟩, Int.toNat_of_nonneg ra.1⟩
    have hpos : 0 < (alk p wh).length := List.length_pos_of_mem hmem
    have hlen : (alk p wh).length ≤ wh.length := by
      unfold alk
      rw [List.length_map]
      exact Nat.le_trans (List.length_filter_le _ _) (by rw [List.length_range]; exact Nat.le_refl _)
    have rb := draw_rng (p := (draw p wh.length).2) (m := (alk p wh).length) (by omega)
    refine' q_set S (ev_op (ev_var (r := rints (alk p wh)) rfl) (ev_draw (m := (alk p wh).length) (p := (draw p wh.length).2) ?h ?h1 ?h2 ?h3) (od_ixI (.inl rfl) rb.1 rb.2)) ?k
    case' h => repeat' wtm_at "ev"
    case h1 => exact rfl
    case h2 => omega
    case h3 => omega
    case k =>
    intro F As σ H S
    try dsimp only
    have hoth := gI_mem (ns := alk p wh) rb.1 rb.2
    generalize gI (alk p wh) (draw (draw p wh.length).2 (alk p wh).length).1 = other at hoth S
    obtain ⟨k, hk, rfl⟩ := List.mem_map.mp hoth
    obtain ⟨k1, k2⟩ := List.mem_filter.mp hk
    have k1 := List.mem_range.mp k1
    have k2 := of_decide_eq_true k2
    refine' q_set S (ev_cb (ea_cons (ev_var (r := rints wh) rfl) ea_nil) (cd_listM (.inl rfl))) ?k
    intro F As σ H S
    try dsimp only
    have ea : ((exA p wh).toNat : Int) = (draw p wh.length).1 := Int.toNat_of_nonneg ra.1
    refine' q_setLI S (i := (draw p wh.length).1) (e := gI wh (k : Int)) (ns := wh) ?h1 ?h2 ?h3 ?h4 ra.1 ra.2 ?kk
    case h1 => repeat' wtm_at "ev"
    case h2 => exact ev_var rfl
    case h3 => exact ev_var rfl
    case h4 => exact rfl
    case kk =>
    intro F As σ H S
    refine' q_setLI S (i := (k : Int)) (e := gI wh (draw p wh.length).1) (ns := wh.set (draw p wh.length).1.toNat (gI wh (k : Int))) ?h1 ?h2 ?h3 ?h4 (by omega) (by rw [List.length_set]; omega) ?kk
    case h1 => exact ev_op (ev_var (r := rints wh) rfl) (ev_var rfl) (od_ixI (.inl rfl) ra.1 ra.2)
    case h2 => exact ev_var rfl
    case h3 => exact ev_var rfl
    case h4 => exact rfl
    case kk =>
    intro F As σ H S
    have hs := set_same (w := wh) (i := (exA p wh).toNat) (j := k) (by unfold exA; omega) k1 (by rw [ea]; exact k2)
    rw [ea] at hs
    rw [Int.toNat_natCast, show (draw p wh.length).1.toNat = (exA p wh).toNat from rfl, hs] at S
    refine s_retF S hB (ev_var rfl) (mc := .lst (wh.map D.int)) rfl rfl (by rw [hA]; exact Nat.le_of_ble_eq_true rfl) ?_
    intro v F As σ E H S rv
    exact post _ _ _ _ _ _ _ S rfl rv
end K84
set_option Elab.async false
set_option linter.all false
set_option maxRecDepth 100000
set_option maxHeartbeats 4000000
namespace K84
open PySem L2 DL
/-! ### the steps: one rule an expression, by its reading's head -/
local macro_rules | `(tactic| wtm_at "ev") => `(tactic| first
  | exact ev_var rfl
  | exact ev_int
  | exact ev_non
  | exact ev_bl
  | exact ev_str
  | exact ea_nil
  | with_reducible apply ea_cons
  | ((with_reducible refine' ev_isi ?a ?b ?c); (case' a => repeat' wtm_at "ev"); (case' b => exact rfl); (case' c => exact rfl))
  | with_reducible apply ev_cb
  | with_reducible apply ev_op
  | with_reducible apply ev_un
  | with_reducible apply et_test
  | with_reducible apply et_B
  | with_reducible apply et_not
  | with_reducible apply ev_isN
  | with_reducible apply ev_notN
  | with_reducible apply ev_notV
  | with_reducible apply et_and
  | with_reducible apply et_or
  | with_reducible apply ev_andV
  | with_reducible apply ev_orV
  | with_reducible apply ev_ifI
  | with_reducible apply ev_ifD
  | ((with_reducible refine' ev_dnotin ?a ?b ?c ?d); (case' a => repeat' wtm_at "ev"); (case' b => repeat' wtm_at "ev"); (case' c => exact rfl); (case' d => first | exact .inl rfl | exact .inr ⟨_, rfl, rfl⟩))
  | ((with_reducible refine' ev_din ?a ?b ?c ?d); (case' a => repeat' wtm_at "ev"); (case' b => repeat' wtm_at "ev"); (case' c => exact rfl); (case' d => first | exact .inl rfl | exact .inr ⟨_, rfl, rfl⟩))
  | with_reducible apply ev_lcLAI
  | with_reducible apply ev_lcLII
  | with_reducible apply ev_lcLA
  | with_reducible apply ev_lcLI
  | with_reducible apply ev_lcRAI
  | with_reducible apply ev_lcRI
  | with_reducible apply ev_lcRA
  | with_reducible apply ev_lcR
  | exact et_yes
  | with_reducible intro _
  | exact od_int
  | exact od_bool
  | exact od_eqI
  | exact od_neI
  | exact od_eqS
  | exact od_neS
  | exact ud_neg
  | exact cd_abs
  | exact cd_max2
  | exact cd_min2
  | exact cd_int
  | exact cd_intB
  | exact cd_lenScr
  | exact cd_lenT
  | exact cd_lenI (.inl rfl)
  | exact cd_lenI (.inr ⟨_, rfl, rfl⟩)
  | exact cd_len (.inl rfl)
  | exact cd_len (.inr ⟨_, rfl, rfl⟩)
  | exact cd_lenD (.inl rfl)
  | exact cd_lenD (.inr ⟨_, rfl, rfl⟩)
  | exact cd_sum (.inl rfl)
  | exact cd_sorted (.inl rfl)
  | exact cd_list (.inl rfl)
  | exact cd_listT
  | exact eo_none
  | with_reducible apply eo_some
  | with_reducible apply ev_sliceScr
  | refine' ev_sliceI ?_ ?_ ?_ (.inl rfl)
  | with_reducible apply od_intC
  | with_reducible apply od_ixScr
  | refine' od_ixI (.inl rfl) ?_ ?_
  | refine' od_ixI (.inr ⟨_, rfl, rfl⟩) ?_ ?_
  | exact od_ixT rfl
  | exact od_inI (.inl rfl)
  | exact od_notinI (.inl rfl)
  | refine' od_cat (.inl rfl) (.inl rfl) ?_
  | ((with_reducible refine' ev_tup ?h ?r ?l); (case' h => repeat' wtm_at "ev"); (case' r => exact rfl); (case' l => exact Nat.le_of_ble_eq_true rfl))
  | (refine (show CMul _ _ from .inl ⟨?_, ?_⟩) <;> decide)
  | (refine (show CMul _ _ from .inr ⟨?_, ?_⟩) <;> decide)
  | (refine (show (_ : Prop) from ?_); assumption)
  | (refine (show CDiv _ _ from ⟨?_, ?_⟩) <;> omega)
  | (refine (show CPow _ _ from ⟨?_, ?_, ?_⟩) <;> decide)
  | omega
  | (simp only [Pz.len]; done)
  | (simp only [Pz.len, List.length_map, List.length_append, List.length_range, List.length_set, List.length_reverse]; omega))
/-! a statement's step: its values are reckoned, what is left is the way on -/
local macro_rules | `(tactic| wtm_at "st") => `(tactic| first
  | (refine' q_set (by assumption) ?h ?k; (case' h => repeat' wtm_at "ev"); (case' k => (intro _ _ _ _ _; try dsimp only)))
  | (refine' s_set (by assumption) ?h ?k; (case' h => repeat' wtm_at "ev"); (case' k => (intro _ _ _ _ _; try dsimp only)))
  | (refine' q_augS (by assumption) ?h1 ?h2 ?h3 ?r1 ?r2 ?s1 ?s2 ?k; (case' h1 => repeat' wtm_at "ev"); (case' h2 => repeat' wtm_at "ev"); (case' h3 => repeat' wtm_at "ev"); (case' r1 => exact rfl); (case' r2 => exact rfl); (case' s1 => try wtm_at "ev"); (case' s2 => try wtm_at "ev"); (case' k => (intro _ _ _ _ _; try dsimp only)))
  | (refine' s_augS (by assumption) ?h1 ?h2 ?h3 ?r1 ?r2 ?s1 ?s2 ?k; (case' h1 => repeat' wtm_at "ev"); (case' h2 => repeat' wtm_at "ev"); (case' h3 => repeat' wtm_at "ev"); (case' r1 => exact rfl); (case' r2 => exact rfl); (case' s1 => try wtm_at "ev"); (case' s2 => try wtm_at "ev"); (case' k => (intro _ _ _ _ _; try dsimp only)))
  | (refine' q_setLI (by assumption) ?h ?h1 ?h2 ?r1 ?s1 ?s2 ?k; (case' h => repeat' wtm_at "ev"); (case' h1 => repeat' wtm_at "ev"); (case' h2 => repeat' wtm_at "ev"); (case' r1 => exact rfl); (case' s1 => try wtm_at "ev"); (case' s2 => try wtm_at "ev"); (case' k => (intro _ _ _ _ _; try dsimp only)))
  | (refine' q_setL (by assumption) ?h ?h1 ?h2 ?r1 ?s1 ?s2 ?k; (case' h => repeat' wtm_at "ev"); (case' h1 => repeat' wtm_at "ev"); (case' h2 => repeat' wtm_at "ev"); (case' r1 => exact rfl); (case' s1 => try wtm_at "ev"); (case' s2 => try wtm_at "ev"); (case' k => (intro _ _ _ _ _; try dsimp only)))
  | (refine' s_setLI (by assumption) ?h ?h1 ?h2 ?r1 ?s1 ?s2 ?k; (case' h => repeat' wtm_at "ev"); (case' h1 => repeat' wtm_at "ev"); (case' h2 => repeat' wtm_at "ev"); (case' r1 => exact rfl); (case' s1 => try wtm_at "ev"); (case' s2 => try wtm_at "ev"); (case' k => (intro _ _ _ _ _; try dsimp only)))
  | (refine' s_setL (by assumption) ?h ?h1 ?h2 ?r1 ?s1 ?s2 ?k; (case' h => repeat' wtm_at "ev"); (case' h1 => repeat' wtm_at "ev"); (case' h2 => repeat' wtm_at "ev"); (case' r1 => exact rfl); (case' s1 => try wtm_at "ev"); (case' s2 => try wtm_at "ev"); (case' k => (intro _ _ _ _ _; try dsimp only)))
  | (refine' q_appI (by assumption) ?h1 ?h ?r1 ?r2 ?s ?k; (case' h1 => repeat' wtm_at "ev"); (case' h => repeat' wtm_at "ev"); (case' r1 => exact rfl); (case' r2 => exact rfl); (case' s => try wtm_at "ev"); (case' k => (intro _ _ _ _ _; try dsimp only)))
  | (refine' q_app (by assumption) ?h1 ?h ?r1 ?r2 ?s ?k; (case' h1 => repeat' wtm_at "ev"); (case' h => repeat' wtm_at "ev"); (case' r1 => exact rfl); (case' r2 => exact rfl); (case' s => try wtm_at "ev"); (case' k => (intro _ _ _ _ _; try dsimp only)))
  | (refine' s_appI (by assumption) ?h1 ?h ?r1 ?r2 ?s ?k; (case' h1 => repeat' wtm_at "ev"); (case' h => repeat' wtm_at "ev"); (case' r1 => exact rfl); (case' r2 => exact rfl); (case' s => try wtm_at "ev"); (case' k => (intro _ _ _ _ _; try dsimp only)))
  | (refine' s_app (by assumption) ?h1 ?h ?r1 ?r2 ?s ?k; (case' h1 => repeat' wtm_at "ev"); (case' h => repeat' wtm_at "ev"); (case' r1 => exact rfl); (case' r2 => exact rfl); (case' s => try wtm_at "ev"); (case' k => (intro _ _ _ _ _; try dsimp only)))
  | (refine' q_dput (by assumption) ?h ?h1 ?h2 ?r1 ?r2 ?s ?k; (case' h => repeat' wtm_at "ev"); (case' h1 => repeat' wtm_at "ev"); (case' h2 => repeat' wtm_at "ev"); (case' r1 => exact rfl); (case' r2 => exact rfl); (case' s => try wtm_at "ev"); (case' k => (intro _ _ _ _ _; try dsimp only)))
  | (refine' s_dput (by assumption) ?h ?h1 ?h2 ?r1 ?r2 ?s ?k; (case' h => repeat' wtm_at "ev"); (case' h1 => repeat' wtm_at "ev"); (case' h2 => repeat' wtm_at "ev"); (case' r1 => exact rfl); (case' r2 => exact rfl); (case' s => try wtm_at "ev"); (case' k => (intro _ _ _ _ _; try dsimp only)))
  | (refine' q_tup2 (by assumption) ?h ?k; (case' h => repeat' wtm_at "ev"); (case' k => (intro _ _ _ _ _; try dsimp only)))
  | (refine' q_drop (by assumption) ?h ?k; (case' h => repeat' wtm_at "ev"); (case' k => (intro _ _ _ _ _; try dsimp only)))
  | (refine' q_if (by assumption) ?h ?k1 ?k2; (case' h => repeat' wtm_at "ev"))
  | (refine' s_if (by assumption) ?h ?k1 ?k2; (case' h => repeat' wtm_at "ev"))
  | (refine' s_ret (by assumption) ?h ?k; (case' h => repeat' wtm_at "ev"); (case' k => (intro _ _ _ _ _ _ _; try dsimp only)))
  | (refine' q_ret (by assumption) ?h ?k; (case' h => repeat' wtm_at "ev"); (case' k => (intro _ _ _ _ _ _ _; try dsimp only)))
  | ((with_reducible refine' s_next (by assumption) ?k); (case' k => (intro _ _ _ _ _; try dsimp only)))
  | (with_reducible refine q_next ?_))

/-! ### what the wheels are -/
def whB (p : Pz) (t : Int) (n : Nat) : List Int := (List.range n).map (dAt p (t + 1))
def wC (p : Pz) (t : Int) (n : Nat) : Int × Pz := draw (pAft p (t + 1) n) 3
def wS (p : Pz) (t : Int) (n : Nat) : Int × Pz := draw (wC p t n).2 n
def wN (p : Pz) (t : Int) (n : Nat) (i : Nat) : Int := gI (whB p t n) (((i : Int) + (wS p t n).1) % n) - dAt (wS p t n).2 2 i
def wP0 (p : Pz) (t : Int) (n : Nat) : List Int := (List.range n).map fun (i : Nat) => if wN p t n i > 0 then wN p t n i else 0
def wT (p : Pz) (t : Int) (n : Nat) : Int × Pz := draw (pAft (wS p t n).2 2 n) 4
def wmv (t : Int) (n : Nat) (ps : List Int) (q : Pz) : Nat → List Int × Pz
  | 0 => (ps, q)
  | k + 1 => ((wmv t n ps q k).1.set (draw (draw (wmv t n ps q k).2 (t + 1)).2 n).1.toNat (draw (wmv t n ps q k).2 (t + 1)).1, (draw (draw (wmv t n ps q k).2 (t + 1)).2 n).2)
theorem wmv_len {t : Int} {n : Nat} {ps : List Int} {q : Pz} : ∀ k : Nat, (wmv t n ps q k).1.length = ps.length
  | 0 => rfl
  | k + 1 => by rw [wmv, List.length_set]; exact wmv_len k
def wR (p : Pz) (t : Int) (n : Nat) : List Int × Pz :=
  if (wC p t n).1 = 0 then ((List.range n).map (dAt (wC p t n).2 (t + 1)), pAft (wC p t n).2 (t + 1) n) else wmv t n (wP0 p t n) (wT p t n).2 (wT p t n).1.toNat
theorem whB_len {p : Pz} {t : Int} {n : Nat} : (whB p t n).length = n := by unfold whB; rw [List.length_map, List.length_range]
theorem wR_len {p : Pz} {t : Int} {n : Nat} : (wR p t n).1.length = n := by
  unfold wR
  split
  · rw [List.length_map, List.length_range]
  · rw [wmv_len]; unfold wP0; rw [List.length_map, List.length_range]
def ph_wheels : List MC → List Rv → List MC → Out → Prop := fun M rs M' o => ∃ p t n, M = [pmc p] ∧ rs = [.cel 0, rint t, rint (n : Nat)] ∧ 0 ≤ t ∧ t ≤ 100 ∧ 0 < n ∧ n ≤ 60 ∧ M' = [pmc (wR p t n).2] ∧ o = .ret (.tup [.lst ((whB p t n).map D.int), .lst ((wR p t n).1.map D.int)])
abbrev sp__law_k84_wheels (K : PySem.W.Frag) : Sp := FSp K ph_wheels
theorem ok__law_k84_wheels {P : Program} {w : World} {K : PySem.W.Frag} {mg : Str → Option Value} {base : Heap} {ad : Ad} {fd : Fd} (T : Txt K mg w ad fd) : FnOk P w K mg base CX0 2 ad.a__law_k84_wheels fd.d__law_k84_wheels ["purse", "top", "n"] (sp__law_k84_wheels K) := by
  have G__law_draw := ok__law_draw (P := P) (base := base) T
  have b__law_draw := T.F__law_draw.binds (ps := ["purse", "many"]) fun _ _ _ _ _ _ us hl => match us, hl with | [_, _], _ => rfl
  refine Fun.ok (k := 1) T.F__law_k84_wheels sc__law_k84_wheels (fun vs H Q E h => ?_) (fun cdv A outer s H vs Q E hr h => ?_)
  · exact h.len fun M rs M' o ⟨_, _, _, _, e, _⟩ => by rw [e]; rfl
  · have hu := hu_of hr
    refine ⟨_, (pss_cons (ps_set (i := 3) sc__law_k84_wheels.nd rfl (by first | exact Or.inl rfl | exact Or.inr rfl) (pe_lc rfl sc__law_k84_wheels.nd (pi_range1 (by rfl) T.n_range (pa_cons (pv 2) pa_nil)) (blkOk_by (own := [("turn", 4)]) (N := N__law_k84_wheels) (sc := defScope s__law_k84_wheels) (by decide +kernel)) (fun _ _ _ _ _ => (pg_name (i := 4) sc__law_k84_wheels.nd rfl (by first | exact Or.inl rfl | exact Or.inr rfl))) (fun _ _ _ _ _ => pts_nil) (fun _ _ _ _ _ => (pe_call G__law_draw (hr.mono (by first | decide | omega)) rfl T.g__law_draw T.F__law_draw.kp b__law_draw .nil pass0 (pa_cons (pv 0) (pa_cons (pe_op op_add (pv 1) (pe_int)) pa_nil))))))
  (pss_cons (ps_if (pt_cmpR op_eq (pe_call G__law_draw (hr.mono (by first | decide | omega)) rfl T.g__law_draw T.F__law_draw.kp b__law_draw .nil pass0 (pa_cons (pv 0) (pa_cons (pe_int) pa_nil))) (pe_int) (nomark _)) (pss_one (ps_ret (pe_tup (pa_cons (pv 3) (pa_cons (pe_lc rfl sc__law_k84_wheels.nd (pi_range1 (by rfl) T.n_range (pa_cons (pv 2) pa_nil)) (blkOk_by (own := [("turn", 4)]) (N := N__law_k84_wheels) (sc := defScope s__law_k84_wheels) (by decide +kernel)) (fun _ _ _ _ _ => (pg_name (i := 4) sc__law_k84_wheels.nd rfl (by first | exact Or.inl rfl | exact Or.inr rfl))) (fun _ _ _ _ _ => pts_nil) (fun _ _ _ _ _ => (pe_call G__law_draw (hr.mono (by first | decide | omega)) rfl T.g__law_draw T.F__law_draw.kp b__law_draw .nil pass0 (pa_cons (pv 0) (pa_cons (pe_op op_add (pv 1) (pe_int)) pa_nil))))) pa_nil))))) pss_nil)
  (pss_cons (ps_set (i := 5) sc__law_k84_wheels.nd rfl (by first | exact Or.inl rfl | exact Or.inr rfl) (pe_call G__law_draw (hr.mono (by first | decide | omega)) rfl T.g__law_draw T.F__law_draw.kp b__law_draw .nil pass0 (pa_cons (pv 0) (pa_cons (pv 2) pa_nil))))
  (pss_cons (ps_setLc (i := 6) rfl sc__law_k84_wheels.nd rfl rfl (sw_true rfl rfl rfl (by decide +kernel)) (pi_range1 (by rfl) T.n_range (pa_cons (pv 2) pa_nil)) (blkOk_by (own := [("at", 7)]) (N := N__law_k84_wheels) (sc := defScope s__law_k84_wheels) (by decide +kernel)) (fun _ _ _ _ _ => (pg_name (i := 7) sc__law_k84_wheels.nd rfl (by first | exact Or.inl rfl | exact Or.inr rfl))) (fun _ _ _ _ _ => pts_nil) (fun _ _ _ _ _ => (pe_callB (call_max2 rfl) (by rfl) T.n_max (by decide +kernel) (pa_cons (pe_int) (pa_cons (pe_op op_sub (pe_ix (ix_listK (K := K) rfl) (pv 3) (pe_op op_mod (pe_callTy call_int1 (by rfl) T.n_int (by decide +kernel) (pa_cons (pe_op op_add (pv 7) (pv 5)) pa_nil)) (pv 2)) (fun _ _ => rfl)) (pe_call G__law_draw (hr.mono (by first | decide | omega)) rfl T.g__law_draw T.F__law_draw.kp b__law_draw .nil pass0 (pa_cons (pv 0) (pa_cons (pe_int) pa_nil)))) pa_nil)))))
  (pss_cons (ps_for PassesOwn.never rfl (pi_range1 (by rfl) T.n_range (pa_cons (pe_call G__law_draw (hr.mono (by first | decide | omega)) rfl T.g__law_draw T.F__law_draw.kp b__law_draw .nil pass0 (pa_cons (pv 0) (pa_cons (pe_int) pa_nil))) pa_nil)) (pg_name (i := 4) sc__law_k84_wheels.nd rfl (by first | exact Or.inl rfl | exact Or.inr rfl))
  (pss_one (ps_asg (pe_call G__law_draw (hr.mono (by first | decide | omega)) rfl T.g__law_draw T.F__law_draw.kp b__law_draw .nil pass0 (pa_cons (pv 0) (pa_cons (pe_op op_add (pv 1) (pe_int)) pa_nil))) (pg_sub (pv 6) (pe_call G__law_draw (hr.mono (by first | decide | omega)) rfl T.g__law_draw T.F__law_draw.kp b__law_draw .nil pass0 (pa_cons (pv 0) (pa_cons (pv 2) pa_nil))) set_list))))
  (pss_one (ps_ret (pe_tup (pa_cons (pv 3) (pa_cons (pv 6) pa_nil)))))))))), ?_⟩
    try dsimp only [cxOf, Cx.nox, Cx.wish, List.map]
    refine h.reading fun F As M rs M' o hΦ hL B S hB hA post => ?_
    obtain ⟨p, t, n, rfl, rfl, t0, t1, h0, h60, rfl, rfl⟩ := hΦ
    dsimp only at post
    refine' q_set S (ev_lcRS (n := (n : Nat)) (fun i => [pmc (pAft p (t + 1) i)]) (dAt p (t + 1)) ?za ?zb ?zc ?zd) ?zk
    case za => repeat' wtm_at "ev"
    case zb => omega
    case zc => exact rfl
    case zd =>
      intro i hi
      refine' ev_drawS ?h ?h2 ?h3
      case h => repeat' wtm_at "ev"
      case h2 => omega
      case h3 => omega
    case zk =>
    intro F As σ H S
    rw [Int.toNat_natCast] at S
    try dsimp only
    refine' q_if S (b := decide ((wC p t n).1 = 0)) (et_test (ev_op (ev_drawC ?xh ?xh2 ?xh3) ev_int od_eqI)) ?k1 ?k2
    case xh => repeat' wtm_at "ev"
    case xh2 => decide
    case xh3 => decide
    case k1 =>
      intro hc F As σ H S
      have hc := of_decide_eq_true hc
      have eR : wR p t n = ((List.range n).map (dAt (wC p t n).2 (t + 1)), pAft (wC p t n).2 (t + 1) n) := if_pos hc
      refine' s_ret S (ev_tup (rs := [rints (whB p t n), rints ((List.range (Int.toNat (n : Nat))).map (dAt (wC p t n).2 (t + 1)))]) (ea_cons (ev_var rfl) (ea_cons (ev_lcRS (n := (n : Nat)) (fun i => [pmc (pAft (wC p t n).2 (t + 1) i)]) (dAt (wC p t n).2 (t + 1)) ?za ?zb ?zc ?zd) ea_nil)) rfl (Nat.le_of_ble_eq_true rfl)) ?zk
      case za => repeat' wtm_at "ev"
      case zb => omega
      case zc => exact rfl
      case zd =>
        intro i hi
        refine' ev_drawS ?h ?h2 ?h3
        case h => repeat' wtm_at "ev"
        case h2 => omega
        case h3 => omega
      case zk =>
      intro v F As σ H S r
      rw [Int.toNat_natCast] at S r
      rw [eR] at post
      exact post _ _ _ _ _ _ _ S rfl r
    case k2 =>
    intro hc F As σ H S
    have hc := of_decide_eq_false hc
    have eR : wR p t n = wmv t n (wP0 p t n) (wT p t n).2 (wT p t n).1.toNat := if_neg hc
    rw [eR] at post
    try dsimp only
    wtm_at "st"
    have rs := draw_rng (p := (wC p t n).2) (m := (n : Nat)) (by omega)
    refine' q_set (by assumption) (ev_drawC ?h ?h2 ?h3) ?k
    case h => repeat' wtm_at "ev"
    case h2 => omega
    case h3 => omega
    case k =>
    intro F As σ H S
    try dsimp only
    refine' q_set S (ev_lcRSM (n := (n : Nat)) (fun i => [pmc (pAft (wS p t n).2 2 i)]) (fun (i : Nat) => if wN p t n i > 0 then wN p t n i else 0) ?za ?zb ?zc ?zd) ?zk
    case za => repeat' wtm_at "ev"
    case zb => omega
    case zc => exact rfl
    case zd =>
      intro i hi
      have hb := whB_len (p := p) (t := t) (n := n)
      have hm := emod_rng h0 ((i : Int) + (wS p t n).1)
      refine' ev_cb (ea_cons ev_int (ea_cons (ev_op (ev_op (ev_var (r := rints (whB p t n)) rfl) ?e1 (od_ixI (i := ((i : Int) + (wS p t n).1) % n) (.inl rfl) hm.1 (by rw [hb]; exact hm.2))) (ev_drawS (p := (wS p t n).2) (m := 2) (i := i) (Ms := []) ?h ?h2 ?h3) ?e2) ea_nil)) cd_max2
      case e1 =>
        exact ev_op (ev_cb (ea_cons (ev_op (ev_var (r := rint (i : Nat)) rfl) (ev_var (r := rint (wS p t n).1) rfl) od_int) ea_nil) cd_int) (ev_var (r := rint (n : Nat)) rfl) (od_intC (by omega))
      case h => repeat' wtm_at "ev"
      case h2 => decide
      case h3 => decide
      case e2 => repeat' wtm_at "ev"
    case zk =>
    intro F As σ H S
    rw [Int.toNat_natCast] at S
    try dsimp only
    have rt := draw_rng (p := pAft (wS p t n).2 2 n) (m := 4) (by decide)
    have l0 : (wP0 p t n).length = n := by unfold wP0; rw [List.length_map, List.length_range]
    refine' q_forR1 S (n := (wT p t n).1) (ea_cons (ev_drawC ?za ?zb ?zc) ea_nil) ?hn (fun i M E => M = [pmc (wmv t n (wP0 p t n) (wT p t n).2 i).2, .lst ((wmv t n (wP0 p t n) (wT p t n).2 i).1.map D.int)] ∧ ∃ x y, E = [some (.cel 0), some (rint t), some (rint (n : Nat)), some (rints (whB p t n)), x, some (rint (wS p t n).1), some (.cel 1), y]) ?h0 ?hb ?hd
    case za => repeat' wtm_at "ev"
    case zb => decide
    case zc => decide
    case hn => unfold wT; omega
    case h0 => exact ⟨rfl, _, _, rfl⟩
    case hb =>
      rintro i M E hi ⟨rfl, x, y, rfl⟩ F As σ H S
      try dsimp only
      have ln := wmv_len (t := t) (n := n) (ps := wP0 p t n) (q := (wT p t n).2) i
      have ew : wmv t n (wP0 p t n) (wT p t n).2 (i + 1) = ((wmv t n (wP0 p t n) (wT p t n).2 i).1.set (draw (draw (wmv t n (wP0 p t n) (wT p t n).2 i).2 (t + 1)).2 n).1.toNat (draw (wmv t n (wP0 p t n) (wT p t n).2 i).2 (t + 1)).1, (draw (draw (wmv t n (wP0 p t n) (wT p t n).2 i).2 (t + 1)).2 n).2) := rfl
      rw [ew]
      generalize wmv t n (wP0 p t n) (wT p t n).2 i = r at ln S ⊢
      have ri := draw_rng (p := (draw r.2 (t + 1)).2) (m := (n : Nat)) (by omega)
      refine' s_setLI (ns := r.1) S (ev_drawC ?za ?zb ?zc) (ev_var (r := .cel 1) rfl) (ev_drawC ?zd ?ze ?zf) ?zg ri.1 (by rw [ln, l0]; exact ri.2) ?zk
      case za => repeat' wtm_at "ev"
      case zb => omega
      case zc => omega
      case zd => repeat' wtm_at "ev"
      case ze => omega
      case zf => omega
      case zg => exact rfl
      case zk =>
      intro F As σ H S
      exact s_end S ⟨rfl, _, _, rfl⟩ (Ele.refl _)
    case hd =>
      rintro M E ⟨rfl, x, y, rfl⟩ F As σ H S
      refine s_frz S hB (k := 1) (mc := .lst ((wmv t n (wP0 p t n) (wT p t n).2 (wT p t n).1.toNat).1.map D.int)) rfl rfl (by rw [hA]; exact Nat.le_refl _) ?_
      intro F As σ H S
      refine' s_ret S (ev_tup (rs := [rints (whB p t n), rints (wmv t n (wP0 p t n) (wT p t n).2 (wT p t n).1.toNat).1]) (ea_cons (ev_var rfl) (ea_cons (ev_var rfl) ea_nil)) rfl (Nat.le_of_ble_eq_true rfl)) ?zk
      intro v F As σ H S r
      exact post _ _ _ _ _ _ _ S rfl r
end K84
set_option Elab.async false
set_option linter.all false
set_option maxRecDepth 100000
set_option maxHeartbeats 4000000
namespace K84
open PySem L2 DL
/-! ### the steps: one rule an expression, by its reading's head -/
local macro_rules | `(tactic| wtm_at "ev") => `(tactic| first
  | exact ev_var rfl
  | exact ev_int
  | exact ev_non
  | exact ev_bl
  | exact ev_str
  | exact ea_nil
  | with_reducible apply ea_cons
  | ((with_reducible refine' ev_isi ?a ?b ?c); (case' a => repeat' wtm_at "ev"); (case' b => exact rfl); (case' c => exact rfl))
  | with_reducible apply ev_cb
  | with_reducible apply ev_op
  | with_reducible apply ev_un
  | with_reducible apply et_test
  | with_reducible apply et_B
  | with_reducible apply et_not
  | with_reducible apply ev_isN
  | with_reducible apply ev_notN
  | with_reducible apply ev_notV
  | with_reducible apply et_and
  | with_reducible apply et_or
  | with_reducible apply ev_andV
  | with_reducible apply ev_orV
  | with_reducible apply ev_ifI
  | with_reducible apply ev_ifD
  | ((with_reducible refine' ev_dnotin ?a ?b ?c ?d); (case' a => repeat' wtm_at "ev"); (case' b => repeat' wtm_at "ev"); (case' c => exact rfl); (case' d => first | exact .inl rfl | exact .inr ⟨_, rfl, rfl⟩))
  | ((with_reducible refine' ev_din ?a ?b ?c ?d); (case' a => repeat' wtm_at "ev"); (case' b => repeat' wtm_at "ev"); (case' c => exact rfl); (case' d => first | exact .inl rfl | exact .inr ⟨_, rfl, rfl⟩))
  | with_reducible apply ev_lcLAI
  | with_reducible apply ev_lcLII
  | with_reducible apply ev_lcLA
  | with_reducible apply ev_lcLI
  | with_reducible apply ev_lcRAI
  | with_reducible apply ev_lcRI
  | with_reducible apply ev_lcRA
  | with_reducible apply ev_lcR
  | exact et_yes
  | with_reducible intro _
  | exact od_int
  | exact od_bool
  | exact od_eqI
  | exact od_neI
  | exact od_eqS
  | exact od_neS
  | exact ud_neg
  | exact cd_abs
  | exact cd_max2
  | exact cd_min2
  | exact cd_int
  | exact cd_intB
  | exact cd_lenScr
  | exact cd_lenT
  | exact cd_lenI (.inl rfl)
  | exact cd_lenI (.inr ⟨_, rfl, rfl⟩)
  | exact cd_len (.inl rfl)
  | exact cd_len (.inr ⟨_, rfl, rfl⟩)
  | exact cd_lenD (.inl rfl)
  | exact cd_lenD (.inr ⟨_, rfl, rfl⟩)
  | exact cd_sum (.inl rfl)
  | exact cd_sorted (.inl rfl)
  | exact cd_list (.inl rfl)
  | exact cd_listT
  | exact eo_none
  | with_reducible apply eo_some
  | with_reducible apply ev_sliceScr
  | refine' ev_sliceI ?_ ?_ ?_ (.inl rfl)
  | with_reducible apply od_intC
  | with_reducible apply od_ixScr
  | refine' od_ixI (.inl rfl) ?_ ?_
  | refine' od_ixI (.inr ⟨_, rfl, rfl⟩) ?_ ?_
  | exact od_ixT rfl
  | exact od_inI (.inl rfl)
  | exact od_notinI (.inl rfl)
  | refine' od_cat (.inl rfl) (.inl rfl) ?_
  | ((with_reducible refine' ev_tup ?h ?r ?l); (case' h => repeat' wtm_at "ev"); (case' r => exact rfl); (case' l => exact Nat.le_of_ble_eq_true rfl))
  | (refine (show CMul _ _ from .inl ⟨?_, ?_⟩) <;> decide)
  | (refine (show CMul _ _ from .inr ⟨?_, ?_⟩) <;> decide)
  | (refine (show (_ : Prop) from ?_); assumption)
  | (refine (show CDiv _ _ from ⟨?_, ?_⟩) <;> omega)
  | (refine (show CPow _ _ from ⟨?_, ?_, ?_⟩) <;> decide)
  | omega
  | (simp only [Pz.len]; done)
  | (simp only [Pz.len, List.length_map, List.length_append, List.length_range, List.length_set, List.length_reverse]; omega))
/-! a statement's step: its values are reckoned, what is left is the way on -/
local macro_rules | `(tactic| wtm_at "st") => `(tactic| first
  | (refine' q_set (by assumption) ?h ?k; (case' h => repeat' wtm_at "ev"); (case' k => (intro _ _ _ _ _; try dsimp only)))
  | (refine' s_set (by assumption) ?h ?k; (case' h => repeat' wtm_at "ev"); (case' k => (intro _ _ _ _ _; try dsimp only)))
  | (refine' q_augS (by assumption) ?h1 ?h2 ?h3 ?r1 ?r2 ?s1 ?s2 ?k; (case' h1 => repeat' wtm_at "ev"); (case' h2 => repeat' wtm_at "ev"); (case' h3 => repeat' wtm_at "ev"); (case' r1 => exact rfl); (case' r2 => exact rfl); (case' s1 => try wtm_at "ev"); (case' s2 => try wtm_at "ev"); (case' k => (intro _ _ _ _ _; try dsimp only)))
  | (refine' s_augS (by assumption) ?h1 ?h2 ?h3 ?r1 ?r2 ?s1 ?s2 ?k; (case' h1 => repeat' wtm_at "ev"); (case' h2 => repeat' wtm_at "ev"); (case' h3 => repeat' wtm_at "ev"); (case' r1 => exact rfl); (case' r2 => exact rfl); (case' s1 => try wtm_at "ev"); (case' s2 => try wtm_at "ev"); (case' k => (intro _ _ _ _ _; try dsimp only)))
  | (refine' q_setLI (by assumption) ?h ?h1 ?h2 ?r1 ?s1 ?s2 ?k; (case' h => repeat' wtm_at "ev"); (case' h1 => repeat' wtm_at "ev"); (case' h2 => repeat' wtm_at "ev"); (case' r1 => exact rfl); (case' s1 => try wtm_at "ev"); (case' s2 => try wtm_at "ev"); (case' k => (intro _ _ _ _ _; try dsimp only)))
  | (refine' q_setL (by assumption) ?h ?h1 ?h2 ?r1 ?s1 ?s2 ?k; (case' h => repeat' wtm_at "ev"); (case' h1 => repeat' wtm_at "ev"); (case' h2 => repeat' wtm_at "ev"); (case' r1 => exact rfl); (case' s1 => try wtm_at "ev"); (case' s2 => try wtm_at "ev"); (case' k => (intro _ _ _ _ _; try dsimp only)))
  | (refine' s_setLI (by assumption) ?h ?h1 ?h2 ?r1 ?s1 ?s2 ?k; (case' h => repeat' wtm_at "ev"); (case' h1 => repeat' wtm_at "ev"); (case' h2 => repeat' wtm_at "ev"); (case' r1 => exact rfl); (case' s1 => try wtm_at "ev"); (case' s2 => try wtm_at "ev"); (case' k => (intro _ _ _ _ _; try dsimp only)))
  | (refine' s_setL (by assumption) ?h ?h1 ?h2 ?r1 ?s1 ?s2 ?k; (case' h => repeat' wtm_at "ev"); (case' h1 => repeat' wtm_at "ev"); (case' h2 => repeat' wtm_at "ev"); (case' r1 => exact rfl); (case' s1 => try wtm_at "ev"); (case' s2 => try wtm_at "ev"); (case' k => (intro _ _ _ _ _; try dsimp only)))
  | (refine' q_appI (by assumption) ?h1 ?h ?r1 ?r2 ?s ?k; (case' h1 => repeat' wtm_at "ev"); (case' h => repeat' wtm_at "ev"); (case' r1 => exact rfl); (case' r2 => exact rfl); (case' s => try wtm_at "ev"); (case' k => (intro _ _ _ _ _; try dsimp only)))
  | (refine' q_app (by assumption) ?h1 ?h ?r1 ?r2 ?s ?k; (case' h1 => repeat' wtm_at "ev"); (case' h => repeat' wtm_at "ev"); (case' r1 => exact rfl); (case' r2 => exact rfl); (case' s => try wtm_at "ev"); (case' k => (intro _ _ _ _ _; try dsimp only)))
  | (refine' s_appI (by assumption) ?h1 ?h ?r1 ?r2 ?s ?k; (case' h1 => repeat' wtm_at "ev"); (case' h => repeat' wtm_at "ev"); (case' r1 => exact rfl); (case' r2 => exact rfl); (case' s => try wtm_at "ev"); (case' k => (intro _ _ _ _ _; try dsimp only)))
  | (refine' s_app (by assumption) ?h1 ?h ?r1 ?r2 ?s ?k; (case' h1 => repeat' wtm_at "ev"); (case' h => repeat' wtm_at "ev"); (case' r1 => exact rfl); (case' r2 => exact rfl); (case' s => try wtm_at "ev"); (case' k => (intro _ _ _ _ _; try dsimp only)))
  | (refine' q_dput (by assumption) ?h ?h1 ?h2 ?r1 ?r2 ?s ?k; (case' h => repeat' wtm_at "ev"); (case' h1 => repeat' wtm_at "ev"); (case' h2 => repeat' wtm_at "ev"); (case' r1 => exact rfl); (case' r2 => exact rfl); (case' s => try wtm_at "ev"); (case' k => (intro _ _ _ _ _; try dsimp only)))
  | (refine' s_dput (by assumption) ?h ?h1 ?h2 ?r1 ?r2 ?s ?k; (case' h => repeat' wtm_at "ev"); (case' h1 => repeat' wtm_at "ev"); (case' h2 => repeat' wtm_at "ev"); (case' r1 => exact rfl); (case' r2 => exact rfl); (case' s => try wtm_at "ev"); (case' k => (intro _ _ _ _ _; try dsimp only)))
  | (refine' q_tup2 (by assumption) ?h ?k; (case' h => repeat' wtm_at "ev"); (case' k => (intro _ _ _ _ _; try dsimp only)))
  | (refine' q_drop (by assumption) ?h ?k; (case' h => repeat' wtm_at "ev"); (case' k => (intro _ _ _ _ _; try dsimp only)))
  | (refine' q_if (by assumption) ?h ?k1 ?k2; (case' h => repeat' wtm_at "ev"))
  | (refine' s_if (by assumption) ?h ?k1 ?k2; (case' h => repeat' wtm_at "ev"))
  | (refine' s_ret (by assumption) ?h ?k; (case' h => repeat' wtm_at "ev"); (case' k => (intro _ _ _ _ _ _ _; try dsimp only)))
  | (refine' q_ret (by assumption) ?h ?k; (case' h => repeat' wtm_at "ev"); (case' k => (intro _ _ _ _ _ _ _; try dsimp only)))
  | ((with_reducible refine' s_next (by assumption) ?k); (case' k => (intro _ _ _ _ _; try dsimp only)))
  | (with_reducible refine q_next ?_))

section
variable {K : PySem.W.Frag} {t : TA} {M M1 Ms : List MC} {E : List (Option Rv)} {p : Pz}
theorem ev_wheels {u : Int} {n : Nat} (ha : EvA K t (pmc p :: Ms) E (pmc p :: Ms) [.cel 0, rint u, rint (n : Nat)]) (t0 : 0 ≤ u) (t1 : u ≤ 100) (n0 : 0 < n) (n1 : n ≤ 60) :
    EvD K (tCall (sp__law_k84_wheels K) [] E0 t) (pmc p :: Ms) E (pmc (wR p u n).2 :: Ms) (.dat (.tup [.lst ((whB p u n).map D.int), .lst ((wR p u n).1.map D.int)])) :=
  ev_call1 (k := 0) (mc := pmc p) (mc' := pmc (wR p u n).2) ha (by intro z; cases z) rfl (by intro z; cases z) ⟨p, u, n, rfl, rfl, t0, t1, n0, n1, rfl, rfl⟩
theorem ev_exch {w : List Int} (ha : EvA K t (pmc p :: Ms) E (pmc p :: Ms) [.cel 0, rints w]) (h0 : 0 < w.length) (h1 : w.length ≤ 100) :
    EvD K (tCall (sp__law_k84_exchanged K) [] E0 t) (pmc p :: Ms) E (pmc (exP p w) :: Ms) (rints w) :=
  ev_call1 (k := 0) (mc := pmc p) (mc' := pmc (exP p w)) ha (by intro z; cases z) rfl (by intro z; cases z) ⟨p, w, rfl, rfl, h0, h1, rfl, rfl⟩
theorem ev_shifts {b q : List Int} {n : Nat} (ha : EvA K t M E M1 [rints b, rints q]) (W : Wh b q n) : EvD K (tCall (sp__law_k84_shifts K) [] E0 t) M E M1 (rints (spS b q n)) :=
  ev_call0 ha (by intro z; cases z) ⟨b, q, n, rfl, rfl, W, rfl, rfl⟩
theorem ev_turned {w : List Int} {m : Int} (ha : EvA K t M E M1 [rints w, rint m]) (h0 : 0 ≤ m) (h1 : m ≤ w.length) (h2 : w.length ≤ 100) : EvD K (tCall (sp__law_k84_turned K) [] E0 t) M E M1 (rints (tur w m)) :=
  ev_call0 ha (by intro z; cases z) ⟨w, m, rfl, rfl, h0, h1, h2, rfl, rfl⟩
end
def ph_right : List MC → List Rv → List MC → Out → Prop := fun M rs M' o => ∃ p t n, M = [pmc p] ∧ rs = [.cel 0, rint t, rint (n : Nat)] ∧ 0 ≤ t ∧ t ≤ 100 ∧ 0 < n ∧ n ≤ 60 ∧ M' = [.gone] ∧ o = .ret (.bl true)
abbrev sp__law_k84_right (K : PySem.W.Frag) : Sp := FSp K ph_right
theorem ok__law_k84_right {P : Program} {w : World} {K : PySem.W.Frag} {mg : Str → Option Value} {base : Heap} {ad : Ad} {fd : Fd} (T : Txt K mg w ad fd) : FnOk P w K mg base CX0 8 ad.a__law_k84_right fd.d__law_k84_right ["purse", "top", "n"] (sp__law_k84_right K) := by
  have G__law_draw := ok__law_draw (P := P) (base := base) T
  have b__law_draw := T.F__law_draw.binds (ps := ["purse", "many"]) fun _ _ _ _ _ _ us hl => match us, hl with | [_, _], _ => rfl
  have G__law_k84_exchanged := ok__law_k84_exchanged (P := P) (base := base) T
  have b__law_k84_exchanged := T.F__law_k84_exchanged.binds (ps := ["purse", "wheel"]) fun _ _ _ _ _ _ us hl => match us, hl with | [_, _], _ => rfl
  have G__law_k84_shifts := ok__law_k84_shifts (P := P) (base := base) T
  have b__law_k84_shifts := T.F__law_k84_shifts.binds (ps := ["bores", "pins"]) fun _ _ _ _ _ _ us hl => match us, hl with | [_, _], _ => rfl
  have G__law_k84_turned := ok__law_k84_turned (P := P) (base := base) T
  have b__law_k84_turned := T.F__law_k84_turned.binds (ps := ["wheel", "many"]) fun _ _ _ _ _ _ us hl => match us, hl with | [_, _], _ => rfl
  have G__law_k84_wheels := ok__law_k84_wheels (P := P) (base := base) T
  have b__law_k84_wheels := T.F__law_k84_wheels.binds (ps := ["purse", "top", "n"]) fun _ _ _ _ _ _ us hl => match us, hl with | [_, _, _], _ => rfl
  refine Fun.ok (k := 7) T.F__law_k84_right sc__law_k84_right (fun vs H Q E h => ?_) (fun cdv A outer s H vs Q E hr h => ?_)
  · exact h.len fun M rs M' o ⟨_, _, _, _, e, _⟩ => by rw [e]; rfl
  · have hu := hu_of hr
    refine ⟨_, (pss_cons (ps_asg (pe_call G__law_k84_wheels (hr.mono (by first | decide | omega)) rfl T.g__law_k84_wheels T.F__law_k84_wheels.kp b__law_k84_wheels .nil pass0 (pa_cons (pv 0) (pa_cons (pv 1) (pa_cons (pv 2) pa_nil)))) (pg_tupK (K := K) rfl rfl (pgs_cons (pg_name (i := 3) sc__law_k84_right.nd rfl (by first | exact Or.inl rfl | exact Or.inr rfl)) (pgs_cons (pg_name (i := 4) sc__law_k84_right.nd rfl (by first | exact Or.inl rfl | exact Or.inr rfl)) pgs_nil))))
  (pss_cons (ps_set (i := 5) sc__law_k84_right.nd rfl (by first | exact Or.inl rfl | exact Or.inr rfl) (pe_call G__law_k84_shifts (hr.mono (by first | decide | omega)) rfl T.g__law_k84_shifts T.F__law_k84_shifts.kp b__law_k84_shifts .nil pass0 (pa_cons (pv 3) (pa_cons (pv 4) pa_nil))))
  (pss_cons (ps_if (pt_cmp (pc_isN (pv 5))) (pss_one (ps_ret (pe_bl))) pss_nil)
  (pss_cons (ps_set (i := 6) sc__law_k84_right.nd rfl (by first | exact Or.inl rfl | exact Or.inr rfl) (pe_call G__law_draw (hr.mono (by first | decide | omega)) rfl T.g__law_draw T.F__law_draw.kp b__law_draw .nil pass0 (pa_cons (pv 0) (pa_cons (pv 2) pa_nil))))
  (pss_cons (ps_set (i := 7) sc__law_k84_right.nd rfl (by first | exact Or.inl rfl | exact Or.inr rfl) (pe_callB (cr_sortedK (K := K) rfl) (by rfl) T.n_sorted (by decide +kernel) (pa_cons (pe_lc rfl sc__law_k84_right.nd (pi_listK (K := K) rfl (pv 5)) (blkOk_by (own := [("shift", 8)]) (N := N__law_k84_right) (sc := defScope s__law_k84_right) (by decide +kernel)) (fun _ _ _ _ _ => (pg_name (i := 8) sc__law_k84_right.nd rfl (by first | exact Or.inl rfl | exact Or.inr rfl))) (fun _ _ _ _ _ => pts_nil) (fun _ _ _ _ _ => (pe_op op_mod (pe_callTy call_int1 (by rfl) T.n_int (by decide +kernel) (pa_cons (pe_op op_sub (pv 2) (pv 8)) pa_nil)) (pv 2)))) pa_nil)))
  (pss_cons (ps_if (pt_cmpR (op_neDK (K := K) hr.units rfl) (pe_call G__law_k84_shifts (hr.mono (by first | decide | omega)) rfl T.g__law_k84_shifts T.F__law_k84_shifts.kp b__law_k84_shifts .nil pass0 (pa_cons (pe_call G__law_k84_turned (hr.mono (by first | decide | omega)) rfl T.g__law_k84_turned T.F__law_k84_turned.kp b__law_k84_turned .nil pass0 (pa_cons (pv 3) (pa_cons (pv 6) pa_nil))) (pa_cons (pe_call G__law_k84_turned (hr.mono (by first | decide | omega)) rfl T.g__law_k84_turned T.F__law_k84_turned.kp b__law_k84_turned .nil pass0 (pa_cons (pv 4) (pa_cons (pv 6) pa_nil))) pa_nil))) (pv 5) (nomark _)) (pss_one (ps_ret (pe_bl))) pss_nil)
  (pss_cons (ps_if (pt_cmpR (op_neDK (K := K) hr.units rfl) (pe_call G__law_k84_shifts (hr.mono (by first | decide | omega)) rfl T.g__law_k84_shifts T.F__law_k84_shifts.kp b__law_k84_shifts .nil pass0 (pa_cons (pv 3) (pa_cons (pe_call G__law_k84_turned (hr.mono (by first | decide | omega)) rfl T.g__law_k84_turned T.F__law_k84_turned.kp b__law_k84_turned .nil pass0 (pa_cons (pv 4) (pa_cons (pv 6) pa_nil))) pa_nil))) (pe_callB (cr_sortedK (K := K) rfl) (by rfl) T.n_sorted (by decide +kernel) (pa_cons (pe_lc rfl sc__law_k84_right.nd (pi_listK (K := K) rfl (pv 5)) (blkOk_by (own := [("shift", 8)]) (N := N__law_k84_right) (sc := defScope s__law_k84_right) (by decide +kernel)) (fun _ _ _ _ _ => (pg_name (i := 8) sc__law_k84_right.nd rfl (by first | exact Or.inl rfl | exact Or.inr rfl))) (fun _ _ _ _ _ => pts_nil) (fun _ _ _ _ _ => (pe_op op_mod (pe_callTy call_int1 (by rfl) T.n_int (by decide +kernel) (pa_cons (pe_op op_sub (pe_op op_add (pv 8) (pv 2)) (pv 6)) pa_nil)) (pv 2)))) pa_nil)) (nomark _)) (pss_one (ps_ret (pe_bl))) pss_nil)
  (pss_cons (ps_if (pt_cmpR (op_neDK (K := K) hr.units rfl) (pe_call G__law_k84_shifts (hr.mono (by first | decide | omega)) rfl T.g__law_k84_shifts T.F__law_k84_shifts.kp b__law_k84_shifts .nil pass0 (pa_cons (pe_call G__law_k84_turned (hr.mono (by first | decide | omega)) rfl T.g__law_k84_turned T.F__law_k84_turned.kp b__law_k84_turned .nil pass0 (pa_cons (pv 3) (pa_cons (pv 6) pa_nil))) (pa_cons (pv 4) pa_nil))) (pe_callB (cr_sortedK (K := K) rfl) (by rfl) T.n_sorted (by decide +kernel) (pa_cons (pe_lc rfl sc__law_k84_right.nd (pi_listK (K := K) rfl (pv 5)) (blkOk_by (own := [("shift", 8)]) (N := N__law_k84_right) (sc := defScope s__law_k84_right) (by decide +kernel)) (fun _ _ _ _ _ => (pg_name (i := 8) sc__law_k84_right.nd rfl (by first | exact Or.inl rfl | exact Or.inr rfl))) (fun _ _ _ _ _ => pts_nil) (fun _ _ _ _ _ => (pe_op op_mod (pe_callTy call_int1 (by rfl) T.n_int (by decide +kernel) (pa_cons (pe_op op_add (pv 8) (pv 6)) pa_nil)) (pv 2)))) pa_nil)) (nomark _)) (pss_one (ps_ret (pe_bl))) pss_nil)
  (pss_cons (ps_if (pt_cmpR (op_neDK (K := K) hr.units rfl) (pe_call G__law_k84_shifts (hr.mono (by first | decide | omega)) rfl T.g__law_k84_shifts T.F__law_k84_shifts.kp b__law_k84_shifts .nil pass0 (pa_cons (pe_revLK (K := K) rfl (pv 3)) (pa_cons (pe_revLK (K := K) rfl (pv 4)) pa_nil))) (pv 7) (nomark _)) (pss_one (ps_ret (pe_bl))) pss_nil)
  (pss_cons (ps_if (pt_cmpR (op_neDK (K := K) hr.units rfl) (pe_call G__law_k84_shifts (hr.mono (by first | decide | omega)) rfl T.g__law_k84_shifts T.F__law_k84_shifts.kp b__law_k84_shifts .nil pass0 (pa_cons (pe_call G__law_k84_exchanged (hr.mono (by first | decide | omega)) rfl T.g__law_k84_exchanged T.F__law_k84_exchanged.kp b__law_k84_exchanged .nil pass0 (pa_cons (pv 0) (pa_cons (pv 3) pa_nil))) (pa_cons (pe_call G__law_k84_exchanged (hr.mono (by first | decide | omega)) rfl T.g__law_k84_exchanged T.F__law_k84_exchanged.kp b__law_k84_exchanged .nil pass0 (pa_cons (pv 0) (pa_cons (pv 4) pa_nil))) pa_nil))) (pv 5) (nomark _)) (pss_one (ps_ret (pe_bl))) pss_nil)
  (pss_cons (ps_if (pt_cmpR (op_neDK (K := K) hr.units rfl) (pe_call G__law_k84_shifts (hr.mono (by first | decide | omega)) rfl T.g__law_k84_shifts T.F__law_k84_shifts.kp b__law_k84_shifts .nil pass0 (pa_cons (pe_lc rfl sc__law_k84_right.nd (pi_listK (K := K) rfl (pv 3)) (blkOk_by (own := [("bore", 9)]) (N := N__law_k84_right) (sc := defScope s__law_k84_right) (by decide +kernel)) (fun _ _ _ _ _ => (pg_name (i := 9) sc__law_k84_right.nd rfl (by first | exact Or.inl rfl | exact Or.inr rfl))) (fun _ _ _ _ _ => pts_nil) (fun _ _ _ _ _ => (pe_op op_add (pv 9) (pe_int)))) (pa_cons (pe_lc rfl sc__law_k84_right.nd (pi_listK (K := K) rfl (pv 4)) (blkOk_by (own := [("pin", 10)]) (N := N__law_k84_right) (sc := defScope s__law_k84_right) (by decide +kernel)) (fun _ _ _ _ _ => (pg_name (i := 10) sc__law_k84_right.nd rfl (by first | exact Or.inl rfl | exact Or.inr rfl))) (fun _ _ _ _ _ => pts_nil) (fun _ _ _ _ _ => (pe_op op_add (pv 10) (pe_int)))) pa_nil))) (pv 5) (nomark _)) (pss_one (ps_ret (pe_bl))) pss_nil)
  (pss_cons (ps_if (pt_cmpR (op_neDK (K := K) hr.units rfl) (pe_call G__law_k84_shifts (hr.mono (by first | decide | omega)) rfl T.g__law_k84_shifts T.F__law_k84_shifts.kp b__law_k84_shifts .nil pass0 (pa_cons (pe_lc rfl sc__law_k84_right.nd (pi_listK (K := K) rfl (pv 4)) (blkOk_by (own := [("pin", 10)]) (N := N__law_k84_right) (sc := defScope s__law_k84_right) (by decide +kernel)) (fun _ _ _ _ _ => (pg_name (i := 10) sc__law_k84_right.nd rfl (by first | exact Or.inl rfl | exact Or.inr rfl))) (fun _ _ _ _ _ => pts_nil) (fun _ _ _ _ _ => (pe_op op_sub (pv 1) (pv 10)))) (pa_cons (pe_lc rfl sc__law_k84_right.nd (pi_listK (K := K) rfl (pv 3)) (blkOk_by (own := [("bore", 9)]) (N := N__law_k84_right) (sc := defScope s__law_k84_right) (by decide +kernel)) (fun _ _ _ _ _ => (pg_name (i := 9) sc__law_k84_right.nd rfl (by first | exact Or.inl rfl | exact Or.inr rfl))) (fun _ _ _ _ _ => pts_nil) (fun _ _ _ _ _ => (pe_op op_sub (pv 1) (pv 9)))) pa_nil))) (pv 7) (nomark _)) (pss_one (ps_ret (pe_bl))) pss_nil)
  (pss_cons (ps_set (i := 11) sc__law_k84_right.nd rfl (by first | exact Or.inl rfl | exact Or.inr rfl) (pe_call G__law_draw (hr.mono (by first | decide | omega)) rfl T.g__law_draw T.F__law_draw.kp b__law_draw .nil pass0 (pa_cons (pv 0) (pa_cons (pv 2) pa_nil))))
  (pss_cons (ps_set (i := 12) sc__law_k84_right.nd rfl (by first | exact Or.inl rfl | exact Or.inr rfl) (pe_callTy (call_listK (K := K) rfl) (by rfl) T.n_list (by decide +kernel) (pa_cons (pv 3) pa_nil)))
  (pss_cons (ps_asg (pe_op op_add (pe_op op_add (pe_ix (ix_listK (K := K) rfl) (pv 12) (pv 11) (fun _ _ => rfl)) (pe_int)) (pe_call G__law_draw (hr.mono (by first | decide | omega)) rfl T.g__law_draw T.F__law_draw.kp b__law_draw .nil pass0 (pa_cons (pv 0) (pa_cons (pe_int) pa_nil)))) (pg_sub (pv 12) (pv 11) set_list))
  (pss_cons (ps_set (i := 13) sc__law_k84_right.nd rfl (by first | exact Or.inl rfl | exact Or.inr rfl) (pe_call G__law_k84_shifts (hr.mono (by first | decide | omega)) rfl T.g__law_k84_shifts T.F__law_k84_shifts.kp b__law_k84_shifts .nil pass0 (pa_cons (pv 12) (pa_cons (pv 4) pa_nil))))
  (pss_cons (ps_if (pt_cmp (pc_isN (pv 13))) (pss_one (ps_ret (pe_bl))) pss_nil)
  (pss_cons (ps_set (i := 14) sc__law_k84_right.nd rfl (by first | exact Or.inl rfl | exact Or.inr rfl) (pe_lc rfl sc__law_k84_right.nd (pi_range1 (by rfl) T.n_range (pa_cons (pv 2) pa_nil)) (blkOk_by (own := [("place", 15)]) (N := N__law_k84_right) (sc := defScope s__law_k84_right) (by decide +kernel)) (fun _ _ _ _ _ => (pg_name (i := 15) sc__law_k84_right.nd rfl (by first | exact Or.inl rfl | exact Or.inr rfl))) (fun _ _ _ _ _ => (pts_one (pt_cmpR op_gt (pe_ix (ix_listK (K := K) rfl) (pv 4) (pv 15) (fun _ _ => rfl)) (pe_ix (ix_listK (K := K) rfl) (pv 3) (pv 11) (fun _ _ => rfl)) (nomark _)))) (fun _ _ _ _ _ => (pe_op op_mod (pe_callTy call_int1 (by rfl) T.n_int (by decide +kernel) (pa_cons (pe_op op_sub (pv 11) (pv 15)) pa_nil)) (pv 2)))))
  (pss_cons (ps_setLc (i := 16) rfl sc__law_k84_right.nd rfl rfl (sw_true rfl rfl rfl (by decide +kernel)) (pi_listK (K := K) rfl (pv 5)) (blkOk_by (own := [("shift", 8)]) (N := N__law_k84_right) (sc := defScope s__law_k84_right) (by decide +kernel)) (fun _ _ _ _ _ => (pg_name (i := 8) sc__law_k84_right.nd rfl (by first | exact Or.inl rfl | exact Or.inr rfl))) (fun _ _ _ _ _ => (pts_one (pt_cmpR (op_notInK (K := K) rfl) (pv 8) (pv 13) (by rfl)))) (fun _ _ _ _ _ => (pv 8)))
  (pss_cons (ps_setLc (i := 17) rfl sc__law_k84_right.nd rfl rfl (sw_true rfl rfl rfl (by decide +kernel)) (pi_listK (K := K) rfl (pv 13)) (blkOk_by (own := [("shift", 8)]) (N := N__law_k84_right) (sc := defScope s__law_k84_right) (by decide +kernel)) (fun _ _ _ _ _ => (pg_name (i := 8) sc__law_k84_right.nd rfl (by first | exact Or.inl rfl | exact Or.inr rfl))) (fun _ _ _ _ _ => (pts_one (pt_cmpR (op_notInK (K := K) rfl) (pv 8) (pv 5) (by rfl)))) (fun _ _ _ _ _ => (pv 8)))
  (pss_one (ps_ret ((pe_and (pe_cmpR op_eq (pe_callB (call_lenK (K := K) rfl) (by rfl) T.n_len (by decide +kernel) (pa_cons (pv 17) pa_nil)) (pe_int) (nomark _)) (pe_one (pe_cmpR op_eq (pe_callB (call_lenK (K := K) rfl) (by rfl) T.n_len (by decide +kernel) (pa_cons (pe_lc rfl sc__law_k84_right.nd (pi_listK (K := K) rfl (pv 16)) (blkOk_by (own := [("shift", 8)]) (N := N__law_k84_right) (sc := defScope s__law_k84_right) (by decide +kernel)) (fun _ _ _ _ _ => (pg_name (i := 8) sc__law_k84_right.nd rfl (by first | exact Or.inl rfl | exact Or.inr rfl))) (fun _ _ _ _ _ => (pts_one (pt_cmpR (op_notInK (K := K) rfl) (pv 8) (pv 14) (by rfl)))) (fun _ _ _ _ _ => (pv 8))) pa_nil)) (pe_int) (nomark _))))))))))))))))))))))))))), ?_⟩
    try dsimp only [cxOf, Cx.nox, Cx.wish, List.map]
    refine h.reading fun F As M rs M' o hΦ hL B S hB hA post => ?_
    obtain ⟨p0, t, n, rfl, rfl, t0, t1, h0, h60, rfl, rfl⟩ := hΦ
    dsimp only at post
    refine' q_tup2 S (ev_wheels (n := n) ?za t0 t1 h0 h60) ?zk
    case za => repeat' wtm_at "ev"
    case zk =>
    intro F As σ H S
    have W : Wh (whB p0 t n) (wR p0 t n).1 n := ⟨whB_len, wR_len, h0, h60⟩
    generalize whB p0 t n = b at W S
    generalize (wR p0 t n).1 = q at W S
    generalize (wR p0 t n).2 = p1 at S
    obtain ⟨hb, hq, _, _⟩ := id W
    try dsimp only
    refine' q_set S (ev_shifts (n := n) (b := b) (q := q) ?za W) ?zk
    case za => repeat' wtm_at "ev"
    case zk =>
    intro F As σ H S
    try dsimp only
    wtm_at "st"
    · intro hc; cases hc
    intro hc F As σ H S
    try dsimp only
    wtm_at "st"
    have rm := draw_rng (p := p1) (m := (n : Nat)) (by omega)
    refine' q_set (by assumption) (ev_drawC (m := (n : Nat)) ?za ?zb ?zc) ?zk
    case za => repeat' wtm_at "ev"
    case zb => omega
    case zc => omega
    case zk =>
    intro F As σ H S
    generalize (draw p1 (n : Nat)).1 = m at rm S
    generalize (draw p1 (n : Nat)).2 = p2 at S
    try dsimp only
    have mem := fun s => mem_spS (bs := b) (ps := q) h0 (s := s)
    have hl : (spS b q n).length ≤ n := by
      unfold spS
      rw [List.length_map]
      exact Nat.le_trans (List.length_filter_le _ _) (by rw [List.length_range]; exact Nat.le_refl _)
    refine' q_set S (ev_cb (ea_cons (ev_lcLAI (ns := spS b q n) (fun s => (n - s) % n) ?za ?zb ?zc) ea_nil) (cd_sorted (.inl rfl))) ?zk
    case za => repeat' wtm_at "ev"
    case zb => omega
    case zc => intro s hs; repeat' wtm_at "ev"
    case zk =>
    intro F As σ H S
    try dsimp only
    refine' q_if S (b := false) (et_test (ev_op (ev_shifts (n := n) (ea_cons (ev_turned (w := b) (m := m) (ea_cons (ev_var rfl) (ea_cons (ev_var rfl) ea_nil)) rm.1 (by omega) (by omega)) (ea_cons (ev_turned (w := q) (m := m) (ea_cons (ev_var rfl) (ea_cons (ev_var rfl) ea_nil)) rm.1 (by omega) (by omega)) ea_nil)) ⟨by rw [tur_len]; exact hb, by rw [tur_len]; exact hq, h0, h60⟩) (ev_var (r := rints (spS b q n)) rfl) (od_neL (spS_turn2 hb hq h0 rm.1 rm.2)))) ?k1 ?k2
    case k1 => intro hc; cases hc
    case k2 =>
    intro hc F As σ H S
    try dsimp only
    wtm_at "st"
    refine' q_if (by assumption) (b := false) (et_test (ev_op (ev_shifts (n := n) (ea_cons (ev_var (r := rints b) rfl) (ea_cons (ev_turned (w := q) (m := m) (ea_cons (ev_var rfl) (ea_cons (ev_var rfl) ea_nil)) rm.1 (by omega) (by omega)) ea_nil)) ⟨hb, by rw [tur_len]; exact hq, h0, h60⟩) (ev_cb (ea_cons (ev_lcLAI (ns := spS b q n) (fun s => (s + n - m) % n) ?sa ?sb ?sc) ea_nil) (cd_sorted (.inl rfl))) (od_neL (spS_turnP hb hq h0 rm.1 rm.2).symm))) ?k1 ?k2
    case sa => repeat' wtm_at "ev"
    case sb => omega
    case sc => intro s hs; repeat' wtm_at "ev"
    case k1 => intro hc; cases hc
    case k2 =>
    intro hc F As σ H S
    try dsimp only
    wtm_at "st"
    refine' q_if (by assumption) (b := false) (et_test (ev_op (ev_shifts (n := n) (ea_cons (ev_turned (w := b) (m := m) (ea_cons (ev_var rfl) (ea_cons (ev_var rfl) ea_nil)) rm.1 (by omega) (by omega)) (ea_cons (ev_var (r := rints q) rfl) ea_nil)) ⟨by rw [tur_len]; exact hb, hq, h0, h60⟩) (ev_cb (ea_cons (ev_lcLAI (ns := spS b q n) (fun s => (s + m) % n) ?sa ?sb ?sc) ea_nil) (cd_sorted (.inl rfl))) (od_neL (spS_turnB hb hq h0 rm.1 rm.2).symm))) ?k1 ?k2
    case sa => repeat' wtm_at "ev"
    case sb => omega
    case sc => intro s hs; repeat' wtm_at "ev"
    case k1 => intro hc; cases hc
    case k2 =>
    intro hc F As σ H S
    try dsimp only
    wtm_at "st"
    have evrev : ∀ {w : List Int} {ta : TE} {M M1 : List MC} {E : List (Option Rv)}, EvD K ta M E M1 (rints w) → EvD K (tRevL K ta) M E M1 (rints w.reverse) := fun {w ta M M1 E} h => by
      have z := ev_revL (ds := w.map D.int) h (.inl rfl)
      rw [← List.map_reverse] at z; exact z
    refine' q_if (by assumption) (b := false) (et_test (ev_op (ev_shifts (n := n) (ea_cons (evrev (ev_var (r := rints b) rfl)) (ea_cons (evrev (ev_var (r := rints q) rfl)) ea_nil)) ⟨by rw [List.length_reverse]; exact hb, by rw [List.length_reverse]; exact hq, h0, h60⟩) (ev_var (r := rints (sortI ((spS b q n).map fun s => (n - s) % n))) rfl) (od_neL (spS_rev hb hq h0).symm))) ?k1 ?k2
    case k1 => intro hc; cases hc
    case k2 =>
    intro hc F As σ H S
    try dsimp only
    wtm_at "st"
    refine' q_if (by assumption) (b := false) (et_test (ev_op (ev_shifts (n := n) (ea_cons (ev_exch (w := b) (p := p2) (Ms := []) (ea_cons (ev_var rfl) (ea_cons (ev_var rfl) ea_nil)) (by omega) (by omega)) (ea_cons (ev_exch (w := q) (p := exP p2 b) (Ms := []) (ea_cons (ev_var rfl) (ea_cons (ev_var rfl) ea_nil)) (by omega) (by omega)) ea_nil)) W) (ev_var (r := rints (spS b q n)) rfl) (od_neL rfl))) ?k1 ?k2
    case k1 => intro hc; cases hc
    case k2 =>
    intro hc F As σ H S
    try dsimp only
    wtm_at "st"
    refine' q_if (by assumption) (b := false) (et_test (ev_op (ev_shifts (n := n) (ea_cons (ev_lcLAI (ns := b) (fun x => x + 1) (ev_var rfl) (by omega) ?sc1) (ea_cons (ev_lcLAI (ns := q) (fun x => x + 1) (ev_var rfl) (by omega) ?sc2) ea_nil)) ⟨by rw [List.length_map]; exact hb, by rw [List.length_map]; exact hq, h0, h60⟩) (ev_var (r := rints (spS b q n)) rfl) (od_neL (spS_one hb hq h0)))) ?k1 ?k2
    case sc1 => intro s hs; repeat' wtm_at "ev"
    case sc2 => intro s hs; repeat' wtm_at "ev"
    case k1 => intro hc; cases hc
    case k2 =>
    intro hc F As σ H S
    try dsimp only
    wtm_at "st"
    refine' q_if (by assumption) (b := false) (et_test (ev_op (ev_shifts (n := n) (ea_cons (ev_lcLAI (ns := q) (fun x => t - x) (ev_var rfl) (by omega) ?sc1) (ea_cons (ev_lcLAI (ns := b) (fun x => t - x) (ev_var rfl) (by omega) ?sc2) ea_nil)) ⟨by rw [List.length_map]; exact hq, by rw [List.length_map]; exact hb, h0, h60⟩) (ev_var (r := rints (sortI ((spS b q n).map fun s => (n - s) % n))) rfl) (od_neL (spS_swap t hb hq h0).symm))) ?k1 ?k2
    case sc1 => intro s hs; repeat' wtm_at "ev"
    case sc2 => intro s hs; repeat' wtm_at "ev"
    case k1 => intro hc; cases hc
    case k2 =>
    intro hc F As σ H S
    try dsimp only
    wtm_at "st"
    refine' q_set (by assumption) (ev_drawC (p := exP (exP p2 b) q) (m := (n : Nat)) (Ms := []) ?za ?zb ?zc) ?zk
    case za => repeat' wtm_at "ev"
    case zb => omega
    case zc => omega
    case zk =>
    intro F As σ H S
    have ra := draw_rng (p := exP (exP p2 b) q) (m := (n : Nat)) (by omega)
    generalize (draw (exP (exP p2 b) q) (n : Nat)).1 = a at ra S
    generalize (draw (exP (exP p2 b) q) (n : Nat)).2 = p3 at S
    obtain ⟨k, rfl⟩ := Int.eq_ofNat_of_zero_le ra.1
    try dsimp only
    refine' q_set S (ev_cb (ea_cons (ev_var (r := rints b) rfl) ea_nil) (cd_listM (.inl rfl))) ?zk1
    intro F As σ H S
    have rx := draw_rng (p := p3) (m := 3) (by decide)
    try dsimp only
    refine' q_setLI (ns := b) (i := (k : Nat)) (e := gI b (k : Nat) + 1 + (draw p3 3).1) S (ev_op (ev_op (ev_op (ev_var (r := .cel 1) rfl) (ev_var (r := rint (k : Nat)) rfl) (od_ixI (.inr ⟨1, rfl, rfl⟩) ra.1 (by omega))) ev_int od_int) (ev_drawC (p := p3) (m := 3) (Ms := [.lst (b.map D.int)]) ?za ?zb ?zc) od_int) (ev_var (r := .cel 1) rfl) (ev_var (r := rint (k : Nat)) rfl) rfl ra.1 (by omega) ?zk
    case za => repeat' wtm_at "ev"
    case zb => decide
    case zc => decide
    case zk =>
    intro F As σ H S
    rw [Int.toNat_natCast] at S
    have hx : gI b (k : Nat) ≤ gI b (k : Nat) + 1 + (draw p3 3).1 := by omega
    generalize gI b (k : Nat) + 1 + (draw p3 3).1 = x at hx S
    generalize (draw p3 3).2 = p4 at S
    refine s_frz S hB (k := 1) (mc := .lst ((b.set k x).map D.int)) rfl rfl (by rw [hA]; exact Nat.le_refl _) ?_
    intro F As σ H S
    have W2 : Wh (b.set k x) q n := ⟨by rw [List.length_set]; exact hb, hq, h0, h60⟩
    refine' q_set S (ev_shifts (n := n) (b := b.set k x) (q := q) (ea_cons (ev_var rfl) (ea_cons (ev_var rfl) ea_nil)) W2) ?zk2
    intro F As σ H S
    try dsimp only
    wtm_at "st"
    · intro hc; cases hc
    intro hc F As σ H S
    try dsimp only
    wtm_at "st"
    have hl2 : (spS (b.set k x) q n).length ≤ n := by
      unfold spS
      rw [List.length_map]
      exact Nat.le_trans (List.length_filter_le _ _) (by rw [List.length_range]; exact Nat.le_refl _)
    refine' q_set (by assumption) (ev_lcRI (n := (n : Nat)) (fun (i : Nat) => decide (gI b (k : Nat) < gI q (i : Nat))) (fun (i : Nat) => ((k : Int) - i) % n) ?za ?zn ?zt ?ze) ?zk
    case za => repeat' wtm_at "ev"
    case zn => omega
    case zt =>
      intro i hi
      repeat' wtm_at "ev"
    case ze =>
      intro i hi _
      repeat' wtm_at "ev"
    case zk =>
    intro F As σ H S
    rw [Int.toNat_natCast] at S
    try dsimp only
    refine' q_set S (ev_lcLII (ns := spS b q n) (fun s => !decide (s ∈ spS (b.set k x) q n)) (fun s => s) ?za ?zn ?zt ?ze) ?zk
    case za => repeat' wtm_at "ev"
    case zn => omega
    case zt =>
      intro i hi
      repeat' wtm_at "ev"
    case ze =>
      intro i hi _
      repeat' wtm_at "ev"
    case zk =>
    intro F As σ H S
    try dsimp only
    refine' q_set S (ev_lcLII (ns := spS (b.set k x) q n) (fun s => !decide (s ∈ spS b q n)) (fun s => s) ?za ?zn ?zt ?ze) ?zk
    case za => repeat' wtm_at "ev"
    case zn => omega
    case zt =>
      intro i hi
      repeat' wtm_at "ev"
    case ze =>
      intro i hi _
      repeat' wtm_at "ev"
    case zk =>
    intro F As σ H S
    try dsimp only
    rw [lrg_new hb h0 (by omega) hx] at S
    refine' s_ret S (ev_andV (ev_op (ev_cb (ea_cons (ev_var (r := rints []) rfl) ea_nil) (cd_lenI (ns := []) (.inl rfl))) ev_int od_eqI) fun _ => ev_op (ev_cb (ea_cons (ev_lcLII (ns := ((spS b q n).filter fun s => !decide (s ∈ spS (b.set k x) q n)).map (fun s => s)) (fun s => !decide (s ∈ lrgOwn b q n k)) (fun s => s) (ev_var rfl) ?zn ?zt ?ze) ea_nil) (cd_lenI (.inl rfl))) ev_int od_eqI) ?zk
    case zn =>
      rw [List.length_map]
      exact Nat.le_trans (List.length_filter_le _ _) (by omega)
    case zt =>
      intro s hs
      exact et_test (ev_op (ev_var (r := rint s) rfl) (ev_var (r := rints (lrgOwn b q n k)) rfl) (od_notinI (.inl rfl)))
    case ze =>
      intro s hs _
      exact ev_var rfl
    case zk =>
    intro v F As σ H S r
    rw [lrg_own hb h0 (by omega)] at r
    exact post _ _ _ _ _ _ _ (S.forget 0) rfl r
end K84
set_option Elab.async false
set_option linter.all false
set_option maxRecDepth 100000
set_option maxHeartbeats 4000000
namespace K84
open PySem L2 DL
/-! ### the steps: one rule an expression, by its reading's head -/
local macro_rules | `(tactic| wtm_at "ev") => `(tactic| first
  | exact ev_var rfl
  | exact ev_int
  | exact ev_non
  | exact ev_bl
  | exact ev_str
  | exact ea_nil
  | with_reducible apply ea_cons
  | ((with_reducible refine' ev_isi ?a ?b ?c); (case' a => repeat' wtm_at "ev"); (case' b => exact rfl); (case' c => exact rfl))
  | with_reducible apply ev_cb
  | with_reducible apply ev_op
  | with_reducible apply ev_un
  | with_reducible apply et_test
  | with_reducible apply et_B
  | with_reducible apply et_not
  | with_reducible apply ev_isN
  | with_reducible apply ev_notN
  | with_reducible apply ev_notV
  | with_reducible apply et_and
  | with_reducible apply et_or
  | with_reducible apply ev_andV
  | with_reducible apply ev_orV
  | with_reducible apply ev_ifI
  | with_reducible apply ev_ifD
  | ((with_reducible refine' ev_dnotin ?a ?b ?c ?d); (case' a => repeat' wtm_at "ev"); (case' b => repeat' wtm_at "ev"); (case' c => exact rfl); (case' d => first | exact .inl rfl | exact .inr ⟨_, rfl, rfl⟩))
  | ((with_reducible refine' ev_din ?a ?b ?c ?d); (case' a => repeat' wtm_at "ev"); (case' b => repeat' wtm_at "ev"); (case' c => exact rfl); (case' d => first | exact .inl rfl | exact .inr ⟨_, rfl, rfl⟩))
  | with_reducible apply ev_lcLAI
  | with_reducible apply ev_lcLII
  | with_reducible apply ev_lcLA
  | with_reducible apply ev_lcLI
  | with_reducible apply ev_lcRAI
  | with_reducible apply ev_lcRI
  | with_reducible apply ev_lcRA
  | with_reducible apply ev_lcR
  | exact et_yes
  | with_reducible intro _
  | exact od_int
  | exact od_bool
  | exact od_eqI
  | exact od_neI
  | exact od_eqS
  | exact od_neS
  | exact ud_neg
  | exact cd_abs
  | exact cd_max2
  | exact cd_min2
  | exact cd_int
  | exact cd_intB
  | exact cd_lenScr
  | exact cd_lenT
  | exact cd_lenI (.inl rfl)
  | exact cd_lenI (.inr ⟨_, rfl, rfl⟩)
  | exact cd_len (.inl rfl)
  | exact cd_len (.inr ⟨_, rfl, rfl⟩)
  | exact cd_lenD (.inl rfl)
  | exact cd_lenD (.inr ⟨_, rfl, rfl⟩)
  | exact cd_sum (.inl rfl)
  | exact cd_sorted (.inl rfl)
  | exact cd_list (.inl rfl)
  | exact cd_listT
  | exact eo_none
  | with_reducible apply eo_some
  | with_reducible apply ev_sliceScr
  | refine' ev_sliceI ?_ ?_ ?_ (.inl rfl)
  | with_reducible apply od_intC
  | with_reducible apply od_ixScr
  | refine' od_ixI (.inl rfl) ?_ ?_
  | refine' od_ixI (.inr ⟨_, rfl, rfl⟩) ?_ ?_
  | exact od_ixT rfl
  | exact od_inI (.inl rfl)
  | exact od_notinI (.inl rfl)
  | refine' od_cat (.inl rfl) (.inl rfl) ?_
  | ((with_reducible refine' ev_tup ?h ?r ?l); (case' h => repeat' wtm_at "ev"); (case' r => exact rfl); (case' l => exact Nat.le_of_ble_eq_true rfl))
  | (refine (show CMul _ _ from .inl ⟨?_, ?_⟩) <;> decide)
  | (refine (show CMul _ _ from .inr ⟨?_, ?_⟩) <;> decide)
  | (refine (show (_ : Prop) from ?_); assumption)
  | (refine (show CDiv _ _ from ⟨?_, ?_⟩) <;> omega)
  | (refine (show CPow _ _ from ⟨?_, ?_, ?_⟩) <;> decide)
  | omega
  | (simp only [Pz.len]; done)
  | (simp only [Pz.len, List.length_map, List.length_append, List.length_range, List.length_set, List.length_reverse]; omega))
/-! a statement's step: its values are reckoned, what is left is the way on -/
local macro_rules | `(tactic| wtm_at "st") => `(tactic| first
  | (refine' q_set (by assumption) ?h ?k; (case' h => repeat' wtm_at "ev"); (case' k => (intro _ _ _ _ _; try dsimp only)))
  | (refine' s_set (by assumption) ?h ?k; (case' h => repeat' wtm_at "ev"); (case' k => (intro _ _ _ _ _; try dsimp only)))
  | (refine' q_augS (by assumption) ?h1 ?h2 ?h3 ?r1 ?r2 ?s1 ?s2 ?k; (case' h1 => repeat' wtm_at "ev"); (case' h2 => repeat' wtm_at "ev"); (case' h3 => repeat' wtm_at "ev"); (case' r1 => exact rfl); (case' r2 => exact rfl); (case' s1 => try wtm_at "ev"); (case' s2 => try wtm_at "ev"); (case' k => (intro _ _ _ _ _; try dsimp only)))
  | (refine' s_augS (by assumption) ?h1 ?h2 ?h3 ?r1 ?r2 ?s1 ?s2 ?k; (case' h1 => repeat' wtm_at "ev"); (case' h2 => repeat' wtm_at "ev"); (case' h3 => repeat' wtm_at "ev"); (case' r1 => exact rfl); (case' r2 => exact rfl); (case' s1 => try wtm_at "ev"); (case' s2 => try wtm_at "ev"); (case' k => (intro _ _ _ _ _; try dsimp only)))
  | (refine' q_setLI (by assumption) ?h ?h1 ?h2 ?r1 ?s1 ?s2 ?k; (case' h => repeat' wtm_at "ev"); (case' h1 => repeat' wtm_at "ev"); (case' h2 => repeat' wtm_at "ev"); (case' r1 => exact rfl); (case' s1 => try wtm_at "ev"); (case' s2 => try wtm_at "ev"); (case' k => (intro _ _ _ _ _; try dsimp only)))
  | (refine' q_setL (by assumption) ?h ?h1 ?h2 ?r1 ?s1 ?s2 ?k; (case' h => repeat' wtm_at "ev"); (case' h1 => repeat' wtm_at "ev"); (case' h2 => repeat' wtm_at "ev"); (case' r1 => exact rfl); (case' s1 => try wtm_at "ev"); (case' s2 => try wtm_at "ev"); (case' k => (intro _ _ _ _ _; try dsimp only)))
  | (refine' s_setLI (by assumption) ?h ?h1 ?h2 ?r1 ?s1 ?s2 ?k; (case' h => repeat' wtm_at "ev"); (case' h1 => repeat' wtm_at "ev"); (case' h2 => repeat' wtm_at "ev"); (case' r1 => exact rfl); (case' s1 => try wtm_at "ev"); (case' s2 => try wtm_at "ev"); (case' k => (intro _ _ _ _ _; try dsimp only)))
  | (refine' s_setL (by assumption) ?h ?h1 ?h2 ?r1 ?s1 ?s2 ?k; (case' h => repeat' wtm_at "ev"); (case' h1 => repeat' wtm_at "ev"); (case' h2 => repeat' wtm_at "ev"); (case' r1 => exact rfl); (case' s1 => try wtm_at "ev"); (case' s2 => try wtm_at "ev"); (case' k => (intro _ _ _ _ _; try dsimp only)))
  | (refine' q_appI (by assumption) ?h1 ?h ?r1 ?r2 ?s ?k; (case' h1 => repeat' wtm_at "ev"); (case' h => repeat' wtm_at "ev"); (case' r1 => exact rfl); (case' r2 => exact rfl); (case' s => try wtm_at "ev"); (case' k => (intro _ _ _ _ _; try dsimp only)))
  | (refine' q_app (by assumption) ?h1 ?h ?r1 ?r2 ?s ?k; (case' h1 => repeat' wtm_at "ev"); (case' h => repeat' wtm_at "ev"); (case' r1 => exact rfl); (case' r2 => exact rfl); (case' s => try wtm_at "ev"); (case' k => (intro _ _ _ _ _; try dsimp only)))
  | (refine' s_appI (by assumption) ?h1 ?h ?r1 ?r2 ?s ?k; (case' h1 => repeat' wtm_at "ev"); (case' h => repeat' wtm_at "ev"); (case' r1 => exact rfl); (case' r2 => exact rfl); (case' s => try wtm_at "ev"); (case' k => (intro _ _ _ _ _; try dsimp only)))
  | (refine' s_app (by assumption) ?h1 ?h ?r1 ?r2 ?s ?k; (case' h1 => repeat' wtm_at "ev"); (case' h => repeat' wtm_at "ev"); (case' r1 => exact rfl); (case' r2 => exact rfl); (case' s => try wtm_at "ev"); (case' k => (intro _ _ _ _ _; try dsimp only)))
  | (refine' q_dput (by assumption) ?h ?h1 ?h2 ?r1 ?r2 ?s ?k; (case' h => repeat' wtm_at "ev"); (case' h1 => repeat' wtm_at "ev"); (case' h2 => repeat' wtm_at "ev"); (case' r1 => exact rfl); (case' r2 => exact rfl); (case' s => try wtm_at "ev"); (case' k => (intro _ _ _ _ _; try dsimp only)))
  | (refine' s_dput (by assumption) ?h ?h1 ?h2 ?r1 ?r2 ?s ?k; (case' h => repeat' wtm_at "ev"); (case' h1 => repeat' wtm_at "ev"); (case' h2 => repeat' wtm_at "ev"); (case' r1 => exact rfl); (case' r2 => exact rfl); (case' s => try wtm_at "ev"); (case' k => (intro _ _ _ _ _; try dsimp only)))
  | (refine' q_tup2 (by assumption) ?h ?k; (case' h => repeat' wtm_at "ev"); (case' k => (intro _ _ _ _ _; try dsimp only)))
  | (refine' q_drop (by assumption) ?h ?k; (case' h => repeat' wtm_at "ev"); (case' k => (intro _ _ _ _ _; try dsimp only)))
  | (refine' q_if (by assumption) ?h ?k1 ?k2; (case' h => repeat' wtm_at "ev"))
  | (refine' s_if (by assumption) ?h ?k1 ?k2; (case' h => repeat' wtm_at "ev"))
  | (refine' s_ret (by assumption) ?h ?k; (case' h => repeat' wtm_at "ev"); (case' k => (intro _ _ _ _ _ _ _; try dsimp only)))
  | (refine' q_ret (by assumption) ?h ?k; (case' h => repeat' wtm_at "ev"); (case' k => (intro _ _ _ _ _ _ _; try dsimp only)))
  | ((with_reducible refine' s_next (by assumption) ?k); (case' k => (intro _ _ _ _ _; try dsimp only)))
  | (with_reducible refine q_next ?_))

def ph_law : List MC → List Rv → List MC → Out → Prop := fun M rs M' o => ∃ ns, M = [] ∧ rs = [.dat (.scr ns)] ∧ ns.length ≤ 63 ∧ M' = [] ∧ o = .ret (.bl true)
abbrev spF_law (K : PySem.W.Frag) : Sp := FSp K ph_law
def sp_law (K : PySem.W.Frag) : Sp := fun vs H Q _ => ∃ (a : Addr) (ns : List Int), vs = [.ref a] ∧ SqL K H a (ns.map V.int) ∧ ns.length ≤ 63 ∧ ∀ H', Q (.bl true) H'
theorem ev_drawE {K : PySem.W.Frag} {t : TA} {x : MC} {E : List (Option Rv)} {m : Int} {p : Pz} (ha : EvA K t [x, pmc p] E [x, pmc p] [.cel 1, rint m]) (h0 : 0 < m) (h1 : m < 1073741824) :
    EvD K (tCall (FSp K ph_draw) [] E0 t) [x, pmc p] E [x, pmc (draw p m).2] (rint (draw p m).1) := ev_draw ha rfl h0 h1
theorem law_in {K : PySem.W.Frag} {vs : List V} {H : Hp} {Q : VK} {X : XK} (h : sp_law K vs H Q X) : spF_law K vs H Q X := by
  obtain ⟨a, ns, rfl, hs, hl, q⟩ := h
  refine ⟨H, [], [], [.dat (.scr ns)], [], .ret (.bl true), ⟨fun _ _ z => z, rfl, List.nodup_nil, fun k a mc z => by simp at z, ⟨rfl, fun i r z => ?_⟩, fun _ _ z => z, fun a o z _ => z, fun a o _ z => z, fun a z => (by cases z), fun a o z => ⟨o, z⟩, fun a z => (by cases z), List.prefix_refl _⟩, Live.nil, ⟨ns, rfl, rfl, hl, rfl, rfl⟩, fun v F' As' M'' H' fin rv => ?_⟩
  · cases i with
    | zero => cases z; exact ⟨_, rfl, .scr hs⟩
    | succ i => simp at z
  · cases rv
    exact q H'
theorem okF_law {P : Program} {w : World} {K : PySem.W.Frag} {mg : Str → Option Value} {base : Heap} {ad : Ad} {fd : Fd} (T : Txt K mg w ad fd) : FnOk P w K mg base CX0 9 ad.a_law fd.d_law ["script"] (spF_law K) := by
  have G__law_draw := ok__law_draw (P := P) (base := base) T
  have b__law_draw := T.F__law_draw.binds (ps := ["purse", "many"]) fun _ _ _ _ _ _ us hl => match us, hl with | [_, _], _ => rfl
  have G__law_k84_right := ok__law_k84_right (P := P) (base := base) T
  have b__law_k84_right := T.F__law_k84_right.binds (ps := ["purse", "top", "n"]) fun _ _ _ _ _ _ us hl => match us, hl with | [_, _, _], _ => rfl
  have G__law_purse := ok__law_purse (P := P) (base := base) T
  have b__law_purse := T.F__law_purse.binds (ps := ["script", "at"]) fun _ _ _ _ _ _ us hl => match us, hl with | [_, _], _ => rfl
  refine Fun.ok (k := 8) T.F_law sc_law (fun vs H Q E h => ?_) (fun cdv A outer s H vs Q E hr h => ?_)
  · exact h.len fun M rs M' o ⟨_, _, e, _⟩ => by rw [e]; rfl
  · have hu := hu_of hr
    refine ⟨_, (pss_cons (ps_set (i := 1) sc_law.nd rfl (by first | exact Or.inl rfl | exact Or.inr rfl) (pe_call G__law_purse (hr.mono (by first | decide | omega)) rfl T.g__law_purse T.F__law_purse.kp b__law_purse .nil pass0 (pa_cons (pv 0) (pa_cons (pe_int) pa_nil))))
  (pss_cons (ps_if (pt_not (pt_val (pe_call G__law_k84_right (hr.mono (by first | decide | omega)) rfl T.g__law_k84_right T.F__law_k84_right.kp b__law_k84_right .nil pass0 (pa_cons (pv 1) (pa_cons (pe_op op_add (pe_int) (pe_call G__law_draw (hr.mono (by first | decide | omega)) rfl T.g__law_draw T.F__law_draw.kp b__law_draw .nil pass0 (pa_cons (pv 1) (pa_cons (pe_int) pa_nil)))) (pa_cons (pe_op op_add (pe_int) (pe_call G__law_draw (hr.mono (by first | decide | omega)) rfl T.g__law_draw T.F__law_draw.kp b__law_draw .nil pass0 (pa_cons (pv 1) (pa_cons (pe_int) pa_nil)))) pa_nil)))))) (pss_one (ps_ret (pe_bl))) pss_nil)
  (pss_cons (ps_set (i := 1) sc_law.nd rfl (by first | exact Or.inl rfl | exact Or.inr rfl) (pe_call G__law_purse (hr.mono (by first | decide | omega)) rfl T.g__law_purse T.F__law_purse.kp b__law_purse .nil pass0 (pa_cons (pv 0) (pa_cons (pe_int) pa_nil))))
  (pss_cons (ps_set (i := 2) sc_law.nd rfl (by first | exact Or.inl rfl | exact Or.inr rfl) (pe_ifExp (pt_cmpR op_eq (pe_call G__law_draw (hr.mono (by first | decide | omega)) rfl T.g__law_draw T.F__law_draw.kp b__law_draw .nil pass0 (pa_cons (pv 1) (pa_cons (pe_int) pa_nil))) (pe_int) (nomark _)) (pe_int) (pe_op op_add (pe_int) (pe_call G__law_draw (hr.mono (by first | decide | omega)) rfl T.g__law_draw T.F__law_draw.kp b__law_draw .nil pass0 (pa_cons (pv 1) (pa_cons (pe_int) pa_nil))))))
  (pss_one (ps_ret (pe_call G__law_k84_right (hr.mono (by first | decide | omega)) rfl T.g__law_k84_right T.F__law_k84_right.kp b__law_k84_right .nil pass0 (pa_cons (pv 1) (pa_cons (pe_op op_add (pe_int) (pe_call G__law_draw (hr.mono (by first | decide | omega)) rfl T.g__law_draw T.F__law_draw.kp b__law_draw .nil pass0 (pa_cons (pv 1) (pa_cons (pe_int) pa_nil)))) (pa_cons (pv 2) pa_nil)))))))))), ?_⟩
    try dsimp only [cxOf, Cx.nox, Cx.wish, List.map]
    refine h.reading fun F As M rs M' o hΦ hL B S hB hA post => ?_
    obtain ⟨ns, rfl, rfl, hl, rfl, rfl⟩ := hΦ
    dsimp only at post
    refine' q_set S (ev_callN (mc := pmc (purseOf ns 0)) ?za ?zb ?zc) ?zk
    case za => repeat' wtm_at "ev"
    case zb => intro z; cases z
    case zc => exact ⟨ns, 0, rfl, rfl, Int.le_refl _, hl, rfl, rfl⟩
    case zk =>
    intro F As σ H S
    generalize purseOf ns 0 = p at S
    try dsimp only
    have r1 := draw_rng (p := p) (m := 6) (by decide)
    have r2 := draw_rng (p := (draw p 6).2) (m := 12) (by decide)
    obtain ⟨n, hn⟩ := Int.eq_ofNat_of_zero_le (a := 1 + (draw (draw p 6).2 12).1) (by omega)
    refine' q_if S (b := false) (et_not (b := true) (et_B (ev_call1 (k := 0) (mc := pmc (draw (draw p 6).2 12).2) (mc' := .gone) (d := .bl true) (ea_cons (ev_var (r := .cel 0) rfl) (ea_cons (ev_op ev_int (ev_drawC (p := p) (m := 6) (Ms := []) ?za ?zb ?zc) od_int) (ea_cons (ev_op ev_int (ev_drawC (p := (draw p 6).2) (m := 12) (Ms := []) ?zd ?ze ?zf) od_int) ea_nil))) ?zg rfl ?zh ?zi))) ?k1 ?k2
    case za => repeat' wtm_at "ev"
    case zb => decide
    case zc => decide
    case zd => repeat' wtm_at "ev"
    case ze => decide
    case zf => decide
    case zg => intro z; cases z
    case zh => intro z; cases z
    case zi => exact ⟨_, _, n, rfl, by rw [hn], by omega, by omega, by omega, by omega, rfl, rfl⟩
    case k1 => intro hc; cases hc
    case k2 =>
    intro hc F As σ H S
    try dsimp only
    wtm_at "st"
    refine' q_set (by assumption) (ev_callN (mc := pmc (purseOf ns 1)) ?za ?zb ?zc) ?zk
    case za => repeat' wtm_at "ev"
    case zb => intro z; cases z
    case zc => exact ⟨ns, 1, rfl, rfl, by decide, hl, rfl, rfl⟩
    case zk =>
    intro F As σ H S
    clear hn r1 r2
    generalize purseOf ns 1 = u at S
    try dsimp only
    have r1 := draw_rng (p := u) (m := 20) (by decide)
    have r2 := draw_rng (p := (draw u 20).2) (m := 8) (by decide)
    refine' q_set S (M' := [.gone, pmc (if (draw u 20).1 = 0 then (draw u 20).2 else (draw (draw u 20).2 8).2)]) (r := rint (if (draw u 20).1 = 0 then 60 else 1 + (draw (draw u 20).2 8).1)) (ev_if (b := decide ((draw u 20).1 = 0)) (et_test (ev_op (ev_draw (k := 1) (p := u) (m := 20) ?za ?zb ?zc ?zd) ev_int od_eqI)) ?ze ?zf) ?zk2
    case za => repeat' wtm_at "ev"
    case zb => exact rfl
    case zc => decide
    case zd => decide
    case ze =>
      intro hb
      have hb := of_decide_eq_true hb
      rw [if_pos hb, if_pos hb]
      exact ev_int
    case zf =>
      intro hb
      have hb := of_decide_eq_false hb
      rw [if_neg hb, if_neg hb]
      refine' ev_op ev_int (ev_drawE (p := (draw u 20).2) (m := 8) ?ya ?yc ?yd) od_int
      case ya => repeat' wtm_at "ev"
      case yc => decide
      case yd => decide
    case zk2 =>
    intro F As σ H S
    have hr : 0 < (if (draw u 20).1 = 0 then 60 else 1 + (draw (draw u 20).2 8).1) ∧ (if (draw u 20).1 = 0 then 60 else 1 + (draw (draw u 20).2 8).1) ≤ 60 := by split <;> omega
    generalize (if (draw u 20).1 = 0 then 60 else 1 + (draw (draw u 20).2 8).1) = m at hr S
    generalize (if (draw u 20).1 = 0 then (draw u 20).2 else (draw (draw u 20).2 8).2) = q at S
    obtain ⟨n2, rfl⟩ := Int.eq_ofNat_of_zero_le (a := m) (by omega)
    have r3 := draw_rng (p := q) (m := 6) (by decide)
    refine' s_ret S (ev_call1 (k := 1) (mc := pmc (draw q 6).2) (mc' := .gone) (d := .bl true) (ea_cons (ev_var (r := .cel 1) rfl) (ea_cons (ev_op ev_int (ev_drawE (p := q) (m := 6) (x := .gone) ?za ?zc ?zd) od_int) (ea_cons (ev_var (r := rint (n2 : Nat)) rfl) ea_nil))) ?zg rfl ?zh ?zi) ?zk
    case za => repeat' wtm_at "ev"
    case zc => decide
    case zd => decide
    case zg => intro z; cases z
    case zh => intro z; cases z
    case zi => exact ⟨_, _, n2, rfl, rfl, by omega, by omega, by omega, by omega, rfl, rfl⟩
    case zk =>
    intro v F As σ H S r
    exact post _ _ _ _ _ _ _ S rfl r
theorem ok_law {P : Program} {w : World} {K : PySem.W.Frag} {mg : Str → Option Value} {base : Heap} {ad : Ad} {fd : Fd} (T : Txt K mg w ad fd) : FnOk P w K mg base CX0 9 ad.a_law fd.d_law ["script"] (sp_law K) :=
  (okF_law T).imp fun _ _ _ _ h => law_in h
end K84
set_option Elab.async false
set_option linter.all false
set_option maxRecDepth 100000
set_option maxHeartbeats 4000000
namespace K84
open PySem L2 DL
theorem all_mk {P : Program} {w : World} {K : PySem.W.Frag} {h : Heap} {mg : Str → Option Value} {fa : Addr} (X : K.In h) (G : h.Ns mainGlobals mg) (hfa : mg "law" = some (.ref fa))
    {f_check f_spoiled f_first_turn f__law_g_spoiled f__law_g_same_dict f__law_g_first f__law_purse f__law_draw f__law_matches f__law_k84_wheels f__law_k84_shifts f__law_k84_turned f__law_k84_exchanged f__law_k84_right f_law c_LIMITS : Addr}
    {es_L : Array DictEntry} {nx_L : Nat} {tk_L : Tok}
    {od0 an0 od1 an1 od2 an2 od3 an3 od4 an4 od5 an5 od6 an6 od7 an7 od8 an8 od9 an9 od10 an10 od11 an11 od12 an12 od13 an13 od14 an14 : Option Addr} {sl0 sl1 sl2 sl3 sl4 sl5 sl6 sl7 sl8 sl9 sl10 sl11 sl12 sl13 sl14 : Array (Option Value)} {oc0 kV0 dc0 pm0 cd0 ct0 oc1 kV1 dc1 pm1 cd1 ct1 oc2 kV2 dc2 pm2 cd2 ct2 oc3 kV3 dc3 pm3 cd3 ct3 oc4 kV4 dc4 pm4 cd4 ct4 oc5 kV5 dc5 pm5 cd5 ct5 oc6 kV6 dc6 pm6 cd6 ct6 oc7 kV7 dc7 pm7 cd7 ct7 oc8 kV8 dc8 pm8 cd8 ct8 oc9 kV9 dc9 pm9 cd9 ct9 oc10 kV10 dc10 pm10 cd10 ct10 oc11 kV11 dc11 pm11 cd11 ct11 oc12 kV12 dc12 pm12 cd12 ct12 oc13 kV13 dc13 pm13 cd13 ct13 oc14 kV14 dc14 pm14 cd14 ct14 : Value}
    (a_check : PySem.W.nsIn K mainGlobals "check" = some (some (.ref f_check)))
    (l_check : K.lookup f_check = some ⟨oc0, od0, .func (PySem.W.fnOf "check" "check" (defArgs s_check) (defBody s_check) (defScope s_check) .none kV0 dc0 pm0 an0 cd0 ct0), sl0⟩)
    (c_check : PySem.W.codeIn K cd0 "check" = true)
    (k_check : PySem.W.keepIn K (.ref f_check) = true)
    (a_spoiled : PySem.W.nsIn K mainGlobals "spoiled" = some (some (.ref f_spoiled)))
    (l_spoiled : K.lookup f_spoiled = some ⟨oc1, od1, .func (PySem.W.fnOf "spoiled" "spoiled" (defArgs s_spoiled) (defBody s_spoiled) (defScope s_spoiled) .none kV1 dc1 pm1 an1 cd1 ct1), sl1⟩)
    (c_spoiled : PySem.W.codeIn K cd1 "spoiled" = true)
    (k_spoiled : PySem.W.keepIn K (.ref f_spoiled) = true)
    (a_first_turn : PySem.W.nsIn K mainGlobals "first_turn" = some (some (.ref f_first_turn)))
    (l_first_turn : K.lookup f_first_turn = some ⟨oc2, od2, .func (PySem.W.fnOf "first_turn" "first_turn" (defArgs s_first_turn) (defBody s_first_turn) (defScope s_first_turn) .none kV2 dc2 pm2 an2 cd2 ct2), sl2⟩)
    (c_first_turn : PySem.W.codeIn K cd2 "first_turn" = true)
    (k_first_turn : PySem.W.keepIn K (.ref f_first_turn) = true)
    (a__law_g_spoiled : PySem.W.nsIn K mainGlobals "_law_g_spoiled" = some (some (.ref f__law_g_spoiled)))
    (l__law_g_spoiled : K.lookup f__law_g_spoiled = some ⟨oc3, od3, .func (PySem.W.fnOf "_law_g_spoiled" "_law_g_spoiled" (defArgs s__law_g_spoiled) (defBody s__law_g_spoiled) (defScope s__law_g_spoiled) .none kV3 dc3 pm3 an3 cd3 ct3), sl3⟩)
    (c__law_g_spoiled : PySem.W.codeIn K cd3 "_law_g_spoiled" = true)
    (k__law_g_spoiled : PySem.W.keepIn K (.ref f__law_g_spoiled) = true)
    (a__law_g_same_dict : PySem.W.nsIn K mainGlobals "_law_g_same_dict" = some (some (.ref f__law_g_same_dict)))
    (l__law_g_same_dict : K.lookup f__law_g_same_dict = some ⟨oc4, od4, .func (PySem.W.fnOf "_law_g_same_dict" "_law_g_same_dict" (defArgs s__law_g_same_dict) (defBody s__law_g_same_dict) (defScope s__law_g_same_dict) .none kV4 dc4 pm4 an4 cd4 ct4), sl4⟩)
    (c__law_g_same_dict : PySem.W.codeIn K cd4 "_law_g_same_dict" = true)
    (k__law_g_same_dict : PySem.W.keepIn K (.ref f__law_g_same_dict) = true)
    (a__law_g_first : PySem.W.nsIn K mainGlobals "_law_g_first" = some (some (.ref f__law_g_first)))
    (l__law_g_first : K.lookup f__law_g_first = some ⟨oc5, od5, .func (PySem.W.fnOf "_law_g_first" "_law_g_first" (defArgs s__law_g_first) (defBody s__law_g_first) (defScope s__law_g_first) .none kV5 dc5 pm5 an5 cd5 ct5), sl5⟩)
    (c__law_g_first : PySem.W.codeIn K cd5 "_law_g_first" = true)
    (k__law_g_first : PySem.W.keepIn K (.ref f__law_g_first) = true)
    (a__law_purse : PySem.W.nsIn K mainGlobals "_law_purse" = some (some (.ref f__law_purse)))
    (l__law_purse : K.lookup f__law_purse = some ⟨oc6, od6, .func (PySem.W.fnOf "_law_purse" "_law_purse" (defArgs s__law_purse) (defBody s__law_purse) (defScope s__law_purse) .none kV6 dc6 pm6 an6 cd6 ct6), sl6⟩)
    (c__law_purse : PySem.W.codeIn K cd6 "_law_purse" = true)
    (k__law_purse : PySem.W.keepIn K (.ref f__law_purse) = true)
    (a__law_draw : PySem.W.nsIn K mainGlobals "_law_draw" = some (some (.ref f__law_draw)))
    (l__law_draw : K.lookup f__law_draw = some ⟨oc7, od7, .func (PySem.W.fnOf "_law_draw" "_law_draw" (defArgs s__law_draw) (defBody s__law_draw) (defScope s__law_draw) .none kV7 dc7 pm7 an7 cd7 ct7), sl7⟩)
    (c__law_draw : PySem.W.codeIn K cd7 "_law_draw" = true)
    (k__law_draw : PySem.W.keepIn K (.ref f__law_draw) = true)
    (a__law_matches : PySem.W.nsIn K mainGlobals "_law_matches" = some (some (.ref f__law_matches)))
    (l__law_matches : K.lookup f__law_matches = some ⟨oc8, od8, .func (PySem.W.fnOf "_law_matches" "_law_matches" (defArgs s__law_matches) (defBody s__law_matches) (defScope s__law_matches) .none kV8 dc8 pm8 an8 cd8 ct8), sl8⟩)
    (c__law_matches : PySem.W.codeIn K cd8 "_law_matches" = true)
    (k__law_matches : PySem.W.keepIn K (.ref f__law_matches) = true)
    (a__law_k84_wheels : PySem.W.nsIn K mainGlobals "_law_k84_wheels" = some (some (.ref f__law_k84_wheels)))
    (l__law_k84_wheels : K.lookup f__law_k84_wheels = some ⟨oc9, od9, .func (PySem.W.fnOf "_law_k84_wheels" "_law_k84_wheels" (defArgs s__law_k84_wheels) (defBody s__law_k84_wheels) (defScope s__law_k84_wheels) .none kV9 dc9 pm9 an9 cd9 ct9), sl9⟩)
    (c__law_k84_wheels : PySem.W.codeIn K cd9 "_law_k84_wheels" = true)
    (k__law_k84_wheels : PySem.W.keepIn K (.ref f__law_k84_wheels) = true)
    (a__law_k84_shifts : PySem.W.nsIn K mainGlobals "_law_k84_shifts" = some (some (.ref f__law_k84_shifts)))
    (l__law_k84_shifts : K.lookup f__law_k84_shifts = some ⟨oc10, od10, .func (PySem.W.fnOf "_law_k84_shifts" "_law_k84_shifts" (defArgs s__law_k84_shifts) (defBody s__law_k84_shifts) (defScope s__law_k84_shifts) .none kV10 dc10 pm10 an10 cd10 ct10), sl10⟩)
    (c__law_k84_shifts : PySem.W.codeIn K cd10 "_law_k84_shifts" = true)
    (k__law_k84_shifts : PySem.W.keepIn K (.ref f__law_k84_shifts) = true)
    (a__law_k84_turned : PySem.W.nsIn K mainGlobals "_law_k84_turned" = some (some (.ref f__law_k84_turned)))
    (l__law_k84_turned : K.lookup f__law_k84_turned = some ⟨oc11, od11, .func (PySem.W.fnOf "_law_k84_turned" "_law_k84_turned" (defArgs s__law_k84_turned) (defBody s__law_k84_turned) (defScope s__law_k84_turned) .none kV11 dc11 pm11 an11 cd11 ct11), sl11⟩)
    (c__law_k84_turned : PySem.W.codeIn K cd11 "_law_k84_turned" = true)
    (k__law_k84_turned : PySem.W.keepIn K (.ref f__law_k84_turned) = true)
    (a__law_k84_exchanged : PySem.W.nsIn K mainGlobals "_law_k84_exchanged" = some (some (.ref f__law_k84_exchanged)))
    (l__law_k84_exchanged : K.lookup f__law_k84_exchanged = some ⟨oc12, od12, .func (PySem.W.fnOf "_law_k84_exchanged" "_law_k84_exchanged" (defArgs s__law_k84_exchanged) (defBody s__law_k84_exchanged) (defScope s__law_k84_exchanged) .none kV12 dc12 pm12 an12 cd12 ct12), sl12⟩)
    (c__law_k84_exchanged : PySem.W.codeIn K cd12 "_law_k84_exchanged" = true)
    (k__law_k84_exchanged : PySem.W.keepIn K (.ref f__law_k84_exchanged) = true)
    (a__law_k84_right : PySem.W.nsIn K mainGlobals "_law_k84_right" = some (some (.ref f__law_k84_right)))
    (l__law_k84_right : K.lookup f__law_k84_right = some ⟨oc13, od13, .func (PySem.W.fnOf "_law_k84_right" "_law_k84_right" (defArgs s__law_k84_right) (defBody s__law_k84_right) (defScope s__law_k84_right) .none kV13 dc13 pm13 an13 cd13 ct13), sl13⟩)
    (c__law_k84_right : PySem.W.codeIn K cd13 "_law_k84_right" = true)
    (k__law_k84_right : PySem.W.keepIn K (.ref f__law_k84_right) = true)
    (a_law : PySem.W.nsIn K mainGlobals "law" = some (some (.ref f_law)))
    (l_law : K.lookup f_law = some ⟨oc14, od14, .func (PySem.W.fnOf "law" "law" (defArgs s_law) (defBody s_law) (defScope s_law) .none kV14 dc14 pm14 an14 cd14 ct14), sl14⟩)
    (c_law : PySem.W.codeIn K cd14 "law" = true)
    (k_law : PySem.W.keepIn K (.ref f_law) = true)
    (n_abs : PySem.W.nsIn K mainGlobals "abs" = some none)
    (n_bool : PySem.W.nsIn K mainGlobals "bool" = some none)
    (n_dict : PySem.W.nsIn K mainGlobals "dict" = some none)
    (n_int : PySem.W.nsIn K mainGlobals "int" = some none)
    (n_isinstance : PySem.W.nsIn K mainGlobals "isinstance" = some none)
    (n_len : PySem.W.nsIn K mainGlobals "len" = some none)
    (n_list : PySem.W.nsIn K mainGlobals "list" = some none)
    (n_max : PySem.W.nsIn K mainGlobals "max" = some none)
    (n_min : PySem.W.nsIn K mainGlobals "min" = some none)
    (n_range : PySem.W.nsIn K mainGlobals "range" = some none)
    (n_sorted : PySem.W.nsIn K mainGlobals "sorted" = some none)
    (n_str : PySem.W.nsIn K mainGlobals "str" = some none)
    (n_sum : PySem.W.nsIn K mainGlobals "sum" = some none)
    (n_tuple : PySem.W.nsIn K mainGlobals "tuple" = some none)
    (g_LIMITS : PySem.W.nsIn K mainGlobals "LIMITS" = some (some (.ref c_LIMITS)))
    (xl_LIMITS : K.lookup c_LIMITS = some ⟨.type "dict", none, .dict es_L nx_L, #[]⟩)
    (xk_LIMITS : PySem.W.KeysLit w.params es_L.toList)
    (xn_places : PySem.W.nsIn K c_LIMITS "places" = some (some (.int 60 tk_L))) :
    ∃ fd : FuncData, (∀ (s : Shared) (v : Value), BindsTo s fd ⟨[v], []⟩ [("script", v)]) ∧ ∀ base : Heap, K.In base → base.Ns mainGlobals mg → FnOk P w K mg base CX0 9 fa fd ["script"] (sp_law K) := by
  have e := hfa.symm.trans (PySem.W.mg_of X G a_law)
  have e2 : f_law = fa := by cases e; rfl
  subst e2
  have T : Txt K mg w ⟨f_check, f_spoiled, f_first_turn, f__law_g_spoiled, f__law_g_same_dict, f__law_g_first, f__law_purse, f__law_draw, f__law_matches, f__law_k84_wheels, f__law_k84_shifts, f__law_k84_turned, f__law_k84_exchanged, f__law_k84_right, f_law, c_LIMITS⟩ ⟨PySem.W.fnOf "check" "check" (defArgs s_check) (defBody s_check) (defScope s_check) .none kV0 dc0 pm0 an0 cd0 ct0, PySem.W.fnOf "spoiled" "spoiled" (defArgs s_spoiled) (defBody s_spoiled) (defScope s_spoiled) .none kV1 dc1 pm1 an1 cd1 ct1, PySem.W.fnOf "first_turn" "first_turn" (defArgs s_first_turn) (defBody s_first_turn) (defScope s_first_turn) .none kV2 dc2 pm2 an2 cd2 ct2, PySem.W.fnOf "_law_g_spoiled" "_law_g_spoiled" (defArgs s__law_g_spoiled) (defBody s__law_g_spoiled) (defScope s__law_g_spoiled) .none kV3 dc3 pm3 an3 cd3 ct3, PySem.W.fnOf "_law_g_same_dict" "_law_g_same_dict" (defArgs s__law_g_same_dict) (defBody s__law_g_same_dict) (defScope s__law_g_same_dict) .none kV4 dc4 pm4 an4 cd4 ct4, PySem.W.fnOf "_law_g_first" "_law_g_first" (defArgs s__law_g_first) (defBody s__law_g_first) (defScope s__law_g_first) .none kV5 dc5 pm5 an5 cd5 ct5, PySem.W.fnOf "_law_purse" "_law_purse" (defArgs s__law_purse) (defBody s__law_purse) (defScope s__law_purse) .none kV6 dc6 pm6 an6 cd6 ct6, PySem.W.fnOf "_law_draw" "_law_draw" (defArgs s__law_draw) (defBody s__law_draw) (defScope s__law_draw) .none kV7 dc7 pm7 an7 cd7 ct7, PySem.W.fnOf "_law_matches" "_law_matches" (defArgs s__law_matches) (defBody s__law_matches) (defScope s__law_matches) .none kV8 dc8 pm8 an8 cd8 ct8, PySem.W.fnOf "_law_k84_wheels" "_law_k84_wheels" (defArgs s__law_k84_wheels) (defBody s__law_k84_wheels) (defScope s__law_k84_wheels) .none kV9 dc9 pm9 an9 cd9 ct9, PySem.W.fnOf "_law_k84_shifts" "_law_k84_shifts" (defArgs s__law_k84_shifts) (defBody s__law_k84_shifts) (defScope s__law_k84_shifts) .none kV10 dc10 pm10 an10 cd10 ct10, PySem.W.fnOf "_law_k84_turned" "_law_k84_turned" (defArgs s__law_k84_turned) (defBody s__law_k84_turned) (defScope s__law_k84_turned) .none kV11 dc11 pm11 an11 cd11 ct11, PySem.W.fnOf "_law_k84_exchanged" "_law_k84_exchanged" (defArgs s__law_k84_exchanged) (defBody s__law_k84_exchanged) (defScope s__law_k84_exchanged) .none kV12 dc12 pm12 an12 cd12 ct12, PySem.W.fnOf "_law_k84_right" "_law_k84_right" (defArgs s__law_k84_right) (defBody s__law_k84_right) (defScope s__law_k84_right) .none kV13 dc13 pm13 an13 cd13 ct13, PySem.W.fnOf "law" "law" (defArgs s_law) (defBody s_law) (defScope s_law) .none kV14 dc14 pm14 an14 cd14 ct14⟩ :=
    { F_check := fun_mk (st := s_check) l_check c_check k_check,
      F_spoiled := fun_mk (st := s_spoiled) l_spoiled c_spoiled k_spoiled,
      F_first_turn := fun_mk (st := s_first_turn) l_first_turn c_first_turn k_first_turn,
      F__law_g_spoiled := fun_mk (st := s__law_g_spoiled) l__law_g_spoiled c__law_g_spoiled k__law_g_spoiled,
      F__law_g_same_dict := fun_mk (st := s__law_g_same_dict) l__law_g_same_dict c__law_g_same_dict k__law_g_same_dict,
      F__law_g_first := fun_mk (st := s__law_g_first) l__law_g_first c__law_g_first k__law_g_first,
      F__law_purse := fun_mk (st := s__law_purse) l__law_purse c__law_purse k__law_purse,
      F__law_draw := fun_mk (st := s__law_draw) l__law_draw c__law_draw k__law_draw,
      F__law_matches := fun_mk (st := s__law_matches) l__law_matches c__law_matches k__law_matches,
      F__law_k84_wheels := fun_mk (st := s__law_k84_wheels) l__law_k84_wheels c__law_k84_wheels k__law_k84_wheels,
      F__law_k84_shifts := fun_mk (st := s__law_k84_shifts) l__law_k84_shifts c__law_k84_shifts k__law_k84_shifts,
      F__law_k84_turned := fun_mk (st := s__law_k84_turned) l__law_k84_turned c__law_k84_turned k__law_k84_turned,
      F__law_k84_exchanged := fun_mk (st := s__law_k84_exchanged) l__law_k84_exchanged c__law_k84_exchanged k__law_k84_exchanged,
      F__law_k84_right := fun_mk (st := s__law_k84_right) l__law_k84_right c__law_k84_right k__law_k84_right,
      F_law := fun_mk (st := s_law) l_law c_law k_law,
      g_check := PySem.W.mg_of X G a_check,
      g_spoiled := PySem.W.mg_of X G a_spoiled,
      g_first_turn := PySem.W.mg_of X G a_first_turn,
      g__law_g_spoiled := PySem.W.mg_of X G a__law_g_spoiled,
      g__law_g_same_dict := PySem.W.mg_of X G a__law_g_same_dict,
      g__law_g_first := PySem.W.mg_of X G a__law_g_first,
      g__law_purse := PySem.W.mg_of X G a__law_purse,
      g__law_draw := PySem.W.mg_of X G a__law_draw,
      g__law_matches := PySem.W.mg_of X G a__law_matches,
      g__law_k84_wheels := PySem.W.mg_of X G a__law_k84_wheels,
      g__law_k84_shifts := PySem.W.mg_of X G a__law_k84_shifts,
      g__law_k84_turned := PySem.W.mg_of X G a__law_k84_turned,
      g__law_k84_exchanged := PySem.W.mg_of X G a__law_k84_exchanged,
      g__law_k84_right := PySem.W.mg_of X G a__law_k84_right,
      g_law := PySem.W.mg_of X G a_law,
      n_abs := PySem.W.mg_none_of X G n_abs,
      n_bool := PySem.W.mg_none_of X G n_bool,
      n_dict := PySem.W.mg_none_of X G n_dict,
      n_int := PySem.W.mg_none_of X G n_int,
      n_isinstance := PySem.W.mg_none_of X G n_isinstance,
      n_len := PySem.W.mg_none_of X G n_len,
      n_list := PySem.W.mg_none_of X G n_list,
      n_max := PySem.W.mg_none_of X G n_max,
      n_min := PySem.W.mg_none_of X G n_min,
      n_range := PySem.W.mg_none_of X G n_range,
      n_sorted := PySem.W.mg_none_of X G n_sorted,
      n_str := PySem.W.mg_none_of X G n_str,
      n_sum := PySem.W.mg_none_of X G n_sum,
      n_tuple := PySem.W.mg_none_of X G n_tuple,
      g_LIMITS := PySem.W.mg_of X G g_LIMITS,
      x_places := ⟨_, _, _, xl_LIMITS, xk_LIMITS, xn_places, ⟨_, rfl⟩⟩ }
  exact ⟨_, fun s v => .of_eq rfl, fun base _ _ => ok_law T⟩
theorem walk {l : PySem.W.OpenLaw} {q : Program} {loose : List Str} {XP : (Str → Option Value) → Heap → Prop} {YP : World → Heap → Prop} {d : DefRec} {K : Params → PySem.W.Frag} (hn : l.most = some 63) (hdf : d.params.defaults = [])
    (hY : ∀ (w : World) (h : Heap), YP w h → (K w.params).In h)
    (F : ∀ (w : World) (mg : Str → Option Value) (fa : Addr) (h : Heap), (K w.params).In h → h.Ns mainGlobals mg → mg d.name = some (.ref fa) →
      ∃ fd : FuncData, (∀ (s : Shared) (u : Value), BindsTo s fd ⟨[u], []⟩ [("script", u)]) ∧ ∀ base : Heap, (K w.params).In base → base.Ns mainGlobals mg → FnOk l.prog w (K w.params) mg base CX0 9 fa fd ["script"] (sp_law (K w.params))) :
    PySem.W.WalkO q loose XP YP l.row.toRowW d [] (fun f vs => PySem.call f vs) :=
  L2.walk_of (n := 63) (k := 9) (x := "script") (CX := fun _ => CX0) (sp := fun w => sp_law (K w.params)) hn (by decide) hdf ⟨rfl, by decide, by decide⟩ hY F (fun _ _ a ns hl _ hS => ⟨a, ns, rfl, hS, hl, fun _ => rfl⟩) fun _ _ _ _ _ z => z
end K84
open PySem PySem.W PyProof.Rows in
set_option maxRecDepth 100000 in
set_option maxHeartbeats 0 in
theorem PySem.Challenge.cw_nextpair_k84_whole_wheels_turned_and_mir_holds : PySem.Challenge.rw_nextpair_k84_whole_wheels_turned_and_mir.Holds := by
  w_on; o_law; k_head; (case hw => w_witness2)
  k_fill
  refine K84.walk (l := PySem.Challenge.rw_nextpair_k84_whole_wheels_turned_and_mir) rfl rfl (fun w h Y => PySem.W.kIn_of Y) ?F
  case F =>
    intro w mg fa h KX G hmg
    refine' K84.all_mk KX G hmg ?a_check ?l_check ?c_check ?k_check ?a_spoiled ?l_spoiled ?c_spoiled ?k_spoiled ?a_first_turn ?l_first_turn ?c_first_turn ?k_first_turn ?a__law_g_spoiled ?l__law_g_spoiled ?c__law_g_spoiled ?k__law_g_spoiled ?a__law_g_same_dict ?l__law_g_same_dict ?c__law_g_same_dict ?k__law_g_same_dict ?a__law_g_first ?l__law_g_first ?c__law_g_first ?k__law_g_first ?a__law_purse ?l__law_purse ?c__law_purse ?k__law_purse ?a__law_draw ?l__law_draw ?c__law_draw ?k__law_draw ?a__law_matches ?l__law_matches ?c__law_matches ?k__law_matches ?a__law_k84_wheels ?l__law_k84_wheels ?c__law_k84_wheels ?k__law_k84_wheels ?a__law_k84_shifts ?l__law_k84_shifts ?c__law_k84_shifts ?k__law_k84_shifts ?a__law_k84_turned ?l__law_k84_turned ?c__law_k84_turned ?k__law_k84_turned ?a__law_k84_exchanged ?l__law_k84_exchanged ?c__law_k84_exchanged ?k__law_k84_exchanged ?a__law_k84_right ?l__law_k84_right ?c__law_k84_right ?k__law_k84_right ?a_law ?l_law ?c_law ?k_law ?n_abs ?n_bool ?n_dict ?n_int ?n_isinstance ?n_len ?n_list ?n_max ?n_min ?n_range ?n_sorted ?n_str ?n_sum ?n_tuple ?g_LIMITS ?xl_LIMITS ?xk_LIMITS ?xn_places
    (case a_check => k_is)
    (case l_check => k_is)
    (case c_check => k_is)
    (case k_check => k_is)
    (case a_spoiled => k_is)
    (case l_spoiled => k_is)
    (case c_spoiled => k_is)
    (case k_spoiled => k_is)
    (case a_first_turn => k_is)
    (case l_first_turn => k_is)
    (case c_first_turn => k_is)
    (case k_first_turn => k_is)
    (case a__law_g_spoiled => k_is)
    (case l__law_g_spoiled => k_is)
    (case c__law_g_spoiled => k_is)
    (case k__law_g_spoiled => k_is)
    (case a__law_g_same_dict => k_is)
    (case l__law_g_same_dict => k_is)
    (case c__law_g_same_dict => k_is)
    (case k__law_g_same_dict => k_is)
    (case a__law_g_first => k_is)
    (case l__law_g_first => k_is)
    (case c__law_g_first => k_is)
    (case k__law_g_first => k_is)
    (case a__law_purse => k_is)
    (case l__law_purse => k_is)
    (case c__law_purse => k_is)
    (case k__law_purse => k_is)
    (case a__law_draw => k_is)
    (case l__law_draw => k_is)
    (case c__law_draw => k_is)
    (case k__law_draw => k_is)
    (case a__law_matches => k_is)
    (case l__law_matches => k_is)
    (case c__law_matches => k_is)
    (case k__law_matches => k_is)
    (case a__law_k84_wheels => k_is)
    (case l__law_k84_wheels => k_is)
    (case c__law_k84_wheels => k_is)
    (case k__law_k84_wheels => k_is)
    (case a__law_k84_shifts => k_is)
    (case l__law_k84_shifts => k_is)
    (case c__law_k84_shifts => k_is)
    (case k__law_k84_shifts => k_is)
    (case a__law_k84_turned => k_is)
    (case l__law_k84_turned => k_is)
    (case c__law_k84_turned => k_is)
    (case k__law_k84_turned => k_is)
    (case a__law_k84_exchanged => k_is)
    (case l__law_k84_exchanged => k_is)
    (case c__law_k84_exchanged => k_is)
    (case k__law_k84_exchanged => k_is)
    (case a__law_k84_right => k_is)
    (case l__law_k84_right => k_is)
    (case c__law_k84_right => k_is)
    (case k__law_k84_right => k_is)
    (case a_law => k_is)
    (case l_law => k_is)
    (case c_law => k_is)
    (case k_law => k_is)
    (case n_abs => k_is)
    (case n_bool => k_is)
    (case n_dict => k_is)
    (case n_int => k_is)
    (case n_isinstance => k_is)
    (case n_len => k_is)
    (case n_list => k_is)
    (case n_max => k_is)
    (case n_min => k_is)
    (case n_range => k_is)
    (case n_sorted => k_is)
    (case n_str => k_is)
    (case n_sum => k_is)
    (case n_tuple => k_is)
    (case g_LIMITS => k_is)
    (case xl_LIMITS => k_is)
    (case xk_LIMITS => (repeat' first | exact trivial | (refine ⟨⟨_, _, rfl, rfl⟩, ?_⟩)))
    (case xn_places => k_is)
