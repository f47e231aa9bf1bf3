/- What a view is, in memory; the plain functions of layer 5. -/
import Derived.Test.YthimamnblklkbaaDoorProg
import Derived.Test.YthimamnblklkbaaDoorEq
namespace Go.Proofs.YthimamnblklkbaaDoor
open Go Go.RowKit

/-! ### plain -/
def vget (img : List Int) (l : List (Int × Int)) (at_ : Int) : Int :=
  if 0 ≤ at_ ∧ at_ < img.length then (vlook l at_).getD (img.getD at_.toNat 0) else 0

def vput (img : List Int) (l : List (Int × Int)) (at_ x : Int) : Int × List (Int × Int) :=
  if 0 ≤ at_ ∧ at_ < img.length then
    match vlook l at_ with
    | some _ => (0, vset l at_ x)
    | none => if 96 ≤ l.length then (5, l) else (0, vset l at_ x)
  else (8, l)

def vflat (img : List Int) (l : List (Int × Int)) : List Int := l.foldl (fun c p => c.set p.1.toNat p.2) img

def inside (n : Nat) (l : List (Int × Int)) : Prop := ∀ p ∈ l, 0 ≤ p.1 ∧ p.1 < n

/-- what is so of each view's writes. -/
structure VOk (img : List Int) (l : List (Int × Int)) : Prop where
  keys : Keys l
  inside : inside img.length l
  many : l.length ≤ 96
  size : img.length ≤ 17592186044415

/-! ### kinds of elements -/
def kU64 : Kind Int := ⟨38, 1, fun x => [.int .u64 x], by decide, fun _ => rfl, fun _ => rfl⟩
def kInt : Kind Int := ⟨3, 1, fun x => [.int .i64 x], by decide, fun _ => rfl, fun _ => rfl⟩
def kWr : Kind (Int × Int) := ⟨177, 2, fun p => [.int .i64 p.1, .int .u64 p.2], by decide, fun _ => rfl, fun _ => rfl⟩

/-! ### chunks -/
abbrev ptr (b : Nat) : Value := .pointer (some ⟨b, 0, none⟩)

theorem rowA_capnil {e : TypeId} {size : Nat} {a : Option Addr} {k c : Nat} {n : Nat} {xs : List Value} {B : Nat} {w : World} {l : List Nat} (h : (rowA e size (.slice a k c) n xs).P B w l) : a = none → c = 0 := by
  obtain ⟨⟨_, hh⟩, _⟩ := h
  rcases hh with ⟨hv, _⟩ | ⟨g, cap, cur, hv, _⟩
  · cases hv; exact fun _ => rfl
  · cases hv; simp

structure VX where
  b : Nat
  ia : Option Addr
  ic : Nat
  mb : Nat
  oa : Option Addr
  oc : Nat

def viewH (img : List Int) (l : List (Int × Int)) (x : VX) : List Asn :=
  [blk x.b (.cells [.slice x.ia img.length x.ic, .map (some x.mb), .slice x.oa (l.map (·.1)).length x.oc].toArray 163 (0, 0)), kU64.row x.ia x.ic img, mapA x.mb l, kInt.row x.oa x.oc (l.map (·.1))]

/-- A view: its words, what was put. -/
def viewA (p : Value) (img : List Int) (l : List (Int × Int)) : Asn := exA (fun x : VX => p = ptr x.b ∧ VOk img l) (viewH img l)

/-- the same, in a world. -/
def ViewAt (p : Value) (img : List Int) (l : List (Int × Int)) (w : World) : Prop :=
  ∃ x : VX, p = ptr x.b ∧ VOk img l ∧ w.heap[x.b]? = some (.cells [.slice x.ia img.length x.ic, .map (some x.mb), .slice x.oa (l.map (·.1)).length x.oc].toArray 163 (0, 0)) ∧ CellsAt x.ia (kU64.cells img) w ∧ MapAt x.mb l w ∧ CellsAt x.oa (kInt.cells (l.map (·.1))) w ∧ (x.ia = none → x.ic = 0)

theorem viewA_at {p : Value} {img : List Int} {l : List (Int × Int)} {B : Nat} {w : World} {lf : List Nat} (h : (viewA p img l).P B w lf) : ViewAt p img l w := by
  obtain ⟨x, ⟨rfl, hok⟩, l1, l2, ⟨_, h1, _⟩, ⟨m1, m2, h2, ⟨n1, n2, ⟨_, _, h3⟩, ⟨o1, o2, h4, _⟩, _⟩, _⟩, _⟩ := h
  exact ⟨x, rfl, hok, h1, rowA_cells h2, h3, rowA_cells h4, rowA_capnil h2⟩

theorem Ent.view {p : Value} {img : List Int} {l : List (Int × Int)} {R : List Asn} : Ent (viewA p img l :: R) (ViewAt p img l) := Ent.here fun _ _ _ _ h => viewA_at h

structure RX where
  b : Nat
  ia : Option Addr
  ic : Nat
  la : Option Addr
  lc : Nat
  many : Bool

def refH (img : List Int) (l : List (Int × Int)) (x : RX) : List Asn :=
  [blk x.b (.cells [.slice x.ia img.length x.ic, .slice x.la l.length x.lc, .bool x.many].toArray 71 (0, 0)), kU64.row x.ia x.ic img, kWr.row x.la x.lc l]

def refA (p : Value) (img : List Int) (l : List (Int × Int)) : Asn := exA (fun x : RX => p = ptr x.b ∧ VOk img l) (refH img l)

def RefAt (p : Value) (img : List Int) (l : List (Int × Int)) (w : World) : Prop :=
  ∃ x : RX, p = ptr x.b ∧ VOk img l ∧ w.heap[x.b]? = some (.cells [.slice x.ia img.length x.ic, .slice x.la l.length x.lc, .bool x.many].toArray 71 (0, 0)) ∧ CellsAt x.ia (kU64.cells img) w ∧ CellsAt x.la (kWr.cells l) w ∧ (x.ia = none → x.ic = 0)

theorem refA_at {p : Value} {img : List Int} {l : List (Int × Int)} {B : Nat} {w : World} {lf : List Nat} (h : (refA p img l).P B w lf) : RefAt p img l w := by
  obtain ⟨x, ⟨rfl, hok⟩, l1, l2, ⟨_, h1, _⟩, ⟨m1, m2, h2, ⟨n1, n2, h3, _⟩, _⟩, _⟩ := h
  exact ⟨x, rfl, hok, h1, rowA_cells h2, rowA_cells h3, rowA_capnil h2⟩

theorem Ent.ref {p : Value} {img : List Int} {l : List (Int × Int)} {R : List Asn} : Ent (refA p img l :: R) (RefAt p img l) := Ent.here fun _ _ _ _ h => refA_at h

theorem viewAt_old {B : Nat} {w0 w : World} {H : List Asn} {p : Value} {img : List Int} {l : List (Int × Int)} (hs : St B w0 [] w H) (h : ViewAt p img l w0) : ViewAt p img l w := by
  obtain ⟨x, h1, h2, h3, h4, h5, h6, h7⟩ := h
  exact ⟨x, h1, h2, hs.old h3, hs.oldCells h4, hs.oldMap h5, hs.oldCells h6, h7⟩
theorem refAt_old {B : Nat} {w0 w : World} {H : List Asn} {p : Value} {img : List Int} {l : List (Int × Int)} (hs : St B w0 [] w H) (h : RefAt p img l w0) : RefAt p img l w := by
  obtain ⟨x, h1, h2, h3, h4, h5, h6⟩ := h
  exact ⟨x, h1, h2, hs.old h3, hs.oldCells h4, hs.oldCells h5, h6⟩

theorem view_close {B : Nat} {w0 w : World} {l0 : List Nat} {R : List Asn} {b ic mb oc : Nat} {ia oa : Option Addr} {img : List Int} {l : List (Int × Int)} (hok : VOk img l)
    (hs : St B w0 l0 w (viewH img l ⟨b, ia, ic, mb, oa, oc⟩ ++ R)) : St B w0 l0 w (viewA (ptr b) img l :: R) := St.close (F := fun x : VX => ptr b = ptr x.b ∧ VOk img l) _ ⟨rfl, hok⟩ hs
theorem ref_close {B : Nat} {w0 w : World} {l0 : List Nat} {R : List Asn} {b ic lc : Nat} {ia la : Option Addr} {many : Bool} {img : List Int} {l : List (Int × Int)} (hok : VOk img l)
    (hs : St B w0 l0 w (refH img l ⟨b, ia, ic, la, lc, many⟩ ++ R)) : St B w0 l0 w (refA (ptr b) img l :: R) := St.close (F := fun x : RX => ptr b = ptr x.b ∧ VOk img l) _ ⟨rfl, hok⟩ hs

/-! ### plain facts of the writes -/
theorem vlook_none {l : List (Int × Int)} {k : Int} (h : vlook l k = none) : ∀ p ∈ l, ¬ p.1 = k := by
  intro p hp hk
  unfold vlook at h
  rw [Option.map_eq_none_iff, List.find?_eq_none] at h
  have := h p hp
  simp [hk] at this

theorem vset_keys_some {l : List (Int × Int)} {k v : Int} (h : (vlook l k).isSome = true) : (vset l k v).map (·.1) = l.map (·.1) := by
  unfold vset
  split
  · rw [List.map_map]
    refine List.map_congr_left fun p _ => ?_
    simp only [Function.comp]
    split
    · rename_i e; exact e.symm
    · rfl
  · rename_i hn; rw [hn] at h; cases h

theorem vset_none {l : List (Int × Int)} {k v : Int} (h : vlook l k = none) : vset l k v = l ++ [(k, v)] := by
  unfold vset; rw [h]

theorem vset_length_some {l : List (Int × Int)} {k v : Int} (h : (vlook l k).isSome = true) : (vset l k v).length = l.length := by
  have := congrArg List.length (vset_keys_some (v := v) h)
  simpa using this

theorem VOk.put {img : List Int} {l : List (Int × Int)} (h : VOk img l) {k v : Int} (hk : 0 ≤ k ∧ k < img.length) (hm : (vlook l k).isSome = true ∨ l.length < 96) : VOk img (vset l k v) := by
  cases hl : vlook l k with
  | some x =>
    have hs : (vlook l k).isSome = true := by rw [hl]; rfl
    refine ⟨by unfold Keys; rw [vset_keys_some hs]; exact h.keys, ?_, by rw [vset_length_some hs]; exact h.many, h.size⟩
    intro p hp
    unfold vset at hp
    rw [hl] at hp
    simp only [List.mem_map] at hp
    obtain ⟨q, hq, rfl⟩ := hp
    split
    · exact hk
    · exact h.inside q hq
  | none =>
    rw [hl] at hm
    simp only [Option.isSome_none, Bool.false_eq_true, false_or] at hm
    rw [vset_none hl]
    refine ⟨?_, ?_, by simp; omega, h.size⟩
    · unfold Keys
      rw [List.map_append, List.nodup_append]
      refine ⟨h.keys, by simp, ?_⟩
      intro a ha b hb
      simp only [List.mem_map] at ha
      obtain ⟨q, hq, rfl⟩ := ha
      simp only [List.map_cons, List.map_nil, List.mem_singleton] at hb
      subst hb
      exact vlook_none hl q hq
    · intro p hp
      rcases List.mem_append.1 hp with hp | hp
      · exact h.inside p hp
      · simp only [List.mem_singleton] at hp; subst hp; exact hk

theorem vlook_at : ∀ {l : List (Int × Int)}, Keys l → ∀ {k : Nat}, k < l.length → vlook l (l.getD k (0, 0)).1 = some (l.getD k (0, 0)).2
  | p :: l, hn, 0, _ => by simp [vlook]
  | p :: l, hn, k + 1, h => by
    have hn' : Keys l := by simp only [Keys, List.map_cons, List.nodup_cons] at hn; exact hn.2
    have hk : k < l.length := by simpa using h
    have hne : ¬ p.1 = (l.getD k (0, 0)).1 := by
      simp only [Keys, List.map_cons, List.nodup_cons, List.mem_map, not_exists, not_and] at hn
      intro e
      refine hn.1 (l.getD k (0, 0)) ?_ e.symm
      simp [hk]
    have e : (p :: l).getD (k + 1) (0, 0) = l.getD k (0, 0) := by simp
    rw [e]
    have e2 : vlook (p :: l) (l.getD k (0, 0)).1 = vlook l (l.getD k (0, 0)).1 := by
      have : (p.1 == (l.getD k (0, 0)).1) = false := by simpa using hne
      simp only [vlook, List.find?_cons, this]
    rw [e2]
    exact vlook_at hn' hk
theorem cells_none {α : Type} (K : Kind α) {l : List α} {w : World} (h : CellsAt none (K.cells l) w) : l = [] := by
  have h' : K.cells l = [] := h
  have h1 := K.length l
  rw [h'] at h1
  rcases Nat.eq_zero_or_pos l.length with h2 | h2
  · exact List.eq_nil_of_length_eq_zero h2
  · have := Nat.mul_pos h2 K.pos
    simp at h1
    omega

theorem VOk.nil {img : List Int} (h : img.length ≤ 17592186044415) : VOk img [] := ⟨by simp [Keys], by simp [Go.Proofs.YthimamnblklkbaaDoor.inside], by simp, h⟩

theorem take_snoc {α : Type} {l : List α} (d : α) {k : Nat} (hk : k < l.length) : l.take (k + 1) = l.take k ++ [l.getD k d] := by
  rw [List.take_succ_eq_append_getElem hk]
  simp [hk]

theorem writes_step {l : List (Int × Int)} (hn : Keys l) {k : Nat} (hk : k < l.length) :
    l.take k ++ [((l.map (·.1)).getD k 0, (vlook l ((l.map (·.1)).getD k 0)).getD 0)] = l.take (k + 1) := by
  have e : (l.map (·.1)).getD k 0 = (l.getD k (0, 0)).1 := by simp [hk]
  rw [e, vlook_at hn hk, take_snoc (0, 0) hk]
  rfl

theorem vflat_length (img : List Int) : ∀ l : List (Int × Int), (vflat img l).length = img.length := by
  intro l
  unfold vflat
  induction l generalizing img with
  | nil => rfl
  | cons p l ih => simp [ih]

theorem vflat_step (img : List Int) {l : List (Int × Int)} {k : Nat} (hk : k < l.length) :
    (vflat img (l.take k)).set (l.getD k (0, 0)).1.toNat (l.getD k (0, 0)).2 = vflat img (l.take (k + 1)) := by
  rw [take_snoc (0, 0) hk]
  simp [vflat]

/-- a write to a place that is none. -/
def bad (n : Nat) (p : Int × Int) : Bool := decide (p.1 < 0 ∨ p.1 ≥ n)
def vapply (words : List Int) (l : List (Int × Int)) : Int × List Int := if l.any (bad words.length) then (8, words) else (0, vflat words l)

theorem any_of_get {l : List (Int × Int)} {n k : Nat} (hk : k < l.length) (h : bad n (l.getD k (0, 0)) = true) : l.any (bad n) = true := by
  rw [List.any_eq_true]
  exact ⟨_, by simp [hk], h⟩
theorem any_none {l : List (Int × Int)} {n : Nat} (h : ∀ j, j < l.length → bad n (l.getD j (0, 0)) = false) : l.any (bad n) = false := by
  rw [List.any_eq_false]
  intro p hp
  obtain ⟨j, hj, rfl⟩ := List.getElem_of_mem hp
  have := h j hj
  simp [hj] at this
  simp [this]
theorem not_any_get {l : List (Int × Int)} {n k : Nat} (h : l.any (bad n) = false) (hk : k < l.length) : 0 ≤ (l.getD k (0, 0)).1 ∧ (l.getD k (0, 0)).1 < n := by
  rw [List.any_eq_false] at h
  have := h (l.getD k (0, 0)) (by simp [hk])
  simp only [bad, decide_eq_true_eq] at this
  omega
theorem inside_any {l : List (Int × Int)} {n : Nat} (h : inside n l) : l.any (bad n) = false := by
  rw [List.any_eq_false]
  intro p hp
  have := h p hp
  simp only [bad, decide_eq_true_eq]
  omega
theorem eq_of_getD {α : Type} (d : α) {xs ys : List α} (hl : xs.length = ys.length) (h : ∀ j, j < xs.length → xs.getD j d = ys.getD j d) : xs = ys := by
  refine List.ext_getElem hl fun j h1 h2 => ?_
  have := h j h1
  simpa [h1, h2] using this

/-- where a place stands first in the writes. -/
def FindR (l : List (Int × Int)) (k r : Int) : Prop :=
  (r = -1 ∧ vlook l k = none) ∨ ∃ j : Nat, r = (j : Int) ∧ j < l.length ∧ (l.getD j (0, 0)).1 = k

theorem FindR.lt {l : List (Int × Int)} {k r : Int} (h : FindR l k r) (h0 : 0 ≤ r) : r.toNat < l.length ∧ (l.getD r.toNat (0, 0)).1 = k := by
  rcases h with ⟨h1, _⟩ | ⟨j, rfl, hj, hk⟩
  · omega
  · exact ⟨by simpa using hj, by simpa using hk⟩
theorem rget_none {img : List Int} {l : List (Int × Int)} {k r : Int} (h : FindR l k r) (h0 : ¬ 0 ≤ r) (hin : 0 ≤ k ∧ k < img.length) : img.getD k.toNat 0 = vget img l k := by
  simp only [vget]
  rw [if_pos hin]
  rcases h with ⟨_, h1⟩ | ⟨j, rfl, _⟩
  · rw [h1]; rfl
  · omega
theorem rget_some {img : List Int} {l : List (Int × Int)} (hn : Keys l) {k r : Int} (h : FindR l k r) (h0 : 0 ≤ r) (hin : 0 ≤ k ∧ k < img.length) : (l.getD r.toNat (0, 0)).2 = vget img l k := by
  obtain ⟨h1, h2⟩ := h.lt h0
  simp only [vget]
  rw [if_pos hin]
  have h3 := vlook_at hn h1
  rw [h2] at h3
  rw [h3]
  rfl

theorem FindR.isSome {l : List (Int × Int)} (hn : Keys l) {k r : Int} (h : FindR l k r) (h0 : 0 ≤ r) : (vlook l k).isSome = true := by
  obtain ⟨h1, h2⟩ := h.lt h0
  have h3 := vlook_at hn h1
  rw [h2] at h3
  rw [h3]
  rfl
theorem FindR.none {l : List (Int × Int)} {k r : Int} (h : FindR l k r) (h0 : ¬ 0 ≤ r) : vlook l k = Option.none := by
  rcases h with ⟨_, h1⟩ | ⟨j, rfl, _⟩
  · exact h1
  · omega
theorem rput_many {img : List Int} {l : List (Int × Int)} {k r x : Int} (h : FindR l k r) (h0 : ¬ 0 ≤ r) (hin : 0 ≤ k ∧ k < img.length) (hm : 96 ≤ l.length) : vput img l k x = (5, l) := by
  simp only [vput]
  rw [if_pos hin, h.none h0]
  exact if_pos hm
theorem rput_new {img : List Int} {l : List (Int × Int)} {k r x : Int} (h : FindR l k r) (h0 : ¬ 0 ≤ r) (hin : 0 ≤ k ∧ k < img.length) (hm : ¬ 96 ≤ l.length) : vput img l k x = (0, vset l k x) := by
  simp only [vput]
  rw [if_pos hin, h.none h0]
  exact if_neg hm
theorem rput_some {img : List Int} {l : List (Int × Int)} (hn : Keys l) {k r x : Int} (h : FindR l k r) (h0 : 0 ≤ r) (hin : 0 ≤ k ∧ k < img.length) : vput img l k x = (0, vset l k x) := by
  simp only [vput]
  rw [if_pos hin]
  have := h.isSome hn h0
  cases hq : vlook l k with
  | none => rw [hq] at this; cases this
  | some v => rfl
theorem rput_app {l : List (Int × Int)} {k r x : Int} (h : FindR l k r) (h0 : ¬ 0 ≤ r) : l ++ [(k, x)] = vset l k x := (vset_none (h.none h0)).symm

theorem find_none {l : List (Int × Int)} {k : Int} (h : ∀ j, j < l.length → ¬ (l.getD j (0, 0)).1 = k) : vlook l k = none := by
  unfold vlook
  rw [Option.map_eq_none_iff, List.find?_eq_none]
  intro p hp
  obtain ⟨j, hj, rfl⟩ := List.getElem_of_mem hp
  have := h j hj
  simp [hj] at this
  simpa using this

theorem vset_set {l : List (Int × Int)} (hn : Keys l) {k v : Int} {j : Nat} (hj : j < l.length) (hk : (l.getD j (0, 0)).1 = k) : l.set j (k, v) = vset l k v := by
  have h1 : vlook l k = some (l.getD j (0, 0)).2 := by rw [← hk]; exact vlook_at hn hj
  have h2 : vset l k v = l.map fun p => if p.1 = k then (k, v) else p := by unfold vset; rw [h1]
  rw [h2]
  clear h1 h2
  induction l generalizing j with
  | nil => simp at hj
  | cons p l ih =>
    have hn' : Keys l := by simp only [Keys, List.map_cons, List.nodup_cons] at hn; exact hn.2
    have hnot : ∀ q ∈ l, ¬ q.1 = p.1 := by
      simp only [Keys, List.map_cons, List.nodup_cons, List.mem_map, not_exists, not_and] at hn
      exact fun q hq => hn.1 q hq
    cases j with
    | zero =>
      simp only [List.getD_cons_zero] at hk
      simp only [List.set_cons_zero, List.map_cons, hk, if_true]
      congr 1
      refine ((List.map_congr_left fun q hq => ?_).trans (List.map_id l)).symm
      rw [if_neg (by rw [← hk]; exact hnot q hq)]
      rfl
    | succ j =>
      have hj' : j < l.length := by simpa using hj
      simp only [List.getD_cons_succ] at hk
      have hp : ¬ p.1 = k := by
        intro e
        refine hnot (l.getD j (0, 0)) (by simp [hj']) ?_
        rw [hk, e]
      simp only [List.set_cons_succ, List.map_cons, if_neg hp]
      rw [ih hn' hj' hk]
theorem rput_set {l : List (Int × Int)} (hn : Keys l) {k r x : Int} (h : FindR l k r) (h0 : 0 ≤ r) : l.set r.toNat ((l.getD r.toNat (0, 0)).1, x) = vset l k x := by
  obtain ⟨h1, h2⟩ := h.lt h0
  rw [h2]
  exact vset_set hn h1 h2
theorem viewA_ok {p : Value} {img : List Int} {l : List (Int × Int)} {B : Nat} {w : World} {lf : List Nat} (h : (viewA p img l).P B w lf) : VOk img l := by
  obtain ⟨x, ⟨_, hok⟩, _⟩ := h
  exact hok
theorem refA_ok {p : Value} {img : List Int} {l : List (Int × Int)} {B : Nat} {w : World} {lf : List Nat} (h : (refA p img l).P B w lf) : VOk img l := by
  obtain ⟨x, ⟨_, hok⟩, _⟩ := h
  exact hok

theorem eqPut {img : List Int} {l : List (Int × Int)} {k x e : Int} {m : List (Int × Int)} (h : vput img l k x = (e, m)) : (vput img l k x).2 = m := by rw [h]

/-- A slice below B that is read. -/
theorem St.addLow {α : Type} (K : Kind α) {w0 w : World} {H : List Asn} {a : Option Addr} {l : List α} (hs : St w0.heap.size w0 [] w H) (h : CellsAt a (K.cells l) w0) : St w0.heap.size w0 [] w (K.low a l :: H) := by
  refine St.step0 (post := [K.low a l]) hs ⟨[], ⟨[], [], ⟨rfl, ?_, ?_⟩, fun b => by simp, fun b => by simp, by simp⟩, Upd.refl w []⟩
  · intro ha
    subst ha
    exact h
  · rintro ad rfl j v hv
    have hc := h j v hv
    have hb := World.block_lt_of_cell? w0 _ hc
    have e : (ad.add j).block = ad.block := by unfold Addr.add; split <;> rfl
    rw [e] at hb
    exact ⟨hb, hs.oldCell hc⟩

theorem low_cells {α : Type} (K : Kind α) {a : Option Addr} {l : List α} {B : Nat} {w : World} {lf : List Nat} (h : (K.low a l).P B w lf) : CellsAt a (K.cells l) w := by
  obtain ⟨_, h1, h2⟩ := h
  cases a with
  | none => exact h1 rfl
  | some ad => exact fun j v hv => (h2 ad rfl j v hv).2
end Go.Proofs.YthimamnblklkbaaDoor
