/- Chunks of memory with footprints, what a call may change, and the operations that touch memory. -/
import Derived.Test.YthimamnblklkbaaDoorCore
namespace Go.Proofs.YthimamnblklkbaaDoor
open Go Go.RowKit

/-- What is said of some blocks of memory: hangs on these blocks, and on those below B, alone. -/
structure Asn where
  P : Nat → World → List Nat → Prop
  stable : ∀ {B w w' l}, P B w l → w.heap.size ≤ w'.heap.size → (∀ b, b < w.heap.size → b < B ∨ b ∈ l → w'.heap[b]? = w.heap[b]?) → P B w' l
  low : ∀ {B w l}, P B w l → ∀ b, b ∈ l → B ≤ b ∧ b < w.heap.size

/-- Chunks side by side. -/
def Sep (B : Nat) (w : World) : List Asn → List Nat → Prop
  | [], l => ∀ b, b ∉ l
  | A :: H, l => ∃ l1 l2, A.P B w l1 ∧ Sep B w H l2 ∧ (∀ b, b ∈ l1 → b ∉ l2) ∧ (∀ b, b ∈ l ↔ b ∈ l1 ∨ b ∈ l2)

theorem Sep.low {B : Nat} {w : World} : ∀ {H : List Asn} {l : List Nat}, Sep B w H l → ∀ b, b ∈ l → B ≤ b ∧ b < w.heap.size
  | [], _, h, b, hb => (h b hb).elim
  | A :: _, _, ⟨_, _, h1, h2, _, hm⟩, b, hb => ((hm b).1 hb).elim (fun h => A.low h1 b h) (fun h => Sep.low h2 b h)

theorem Sep.stable {B : Nat} {w w' : World} (hz : w.heap.size ≤ w'.heap.size) : ∀ {H : List Asn} {l : List Nat}, Sep B w H l → (∀ b, b < w.heap.size → b < B ∨ b ∈ l → w'.heap[b]? = w.heap[b]?) → Sep B w' H l
  | [], _, h, _ => h
  | A :: _, _, ⟨l1, l2, h1, h2, hd, hm⟩, hb =>
    ⟨l1, l2, A.stable h1 hz fun b hs h => hb b hs (h.imp id fun h => (hm b).2 (.inl h)), Sep.stable hz h2 fun b hs h => hb b hs (h.imp id fun h => (hm b).2 (.inr h)), hd, hm⟩

theorem Sep.append {B : Nat} {w : World} : ∀ {H R : List Asn} {l : List Nat}, Sep B w (H ++ R) l ↔ ∃ l1 l2, Sep B w H l1 ∧ Sep B w R l2 ∧ (∀ b, b ∈ l1 → b ∉ l2) ∧ (∀ b, b ∈ l ↔ b ∈ l1 ∨ b ∈ l2)
  | [], R, l => by
    constructor
    · intro h
      exact ⟨[], l, fun b => by simp, h, by simp, by simp⟩
    · rintro ⟨l1, l2, h1, h2, _, hm⟩
      have : ∀ (R : List Asn) (l2 l : List Nat), Sep B w R l2 → (∀ b, b ∈ l ↔ b ∈ l2) → Sep B w R l := by
        intro R
        cases R with
        | nil => intro l2 l h e b hb; exact h b ((e b).1 hb)
        | cons A R => rintro l2 l ⟨a, c, x, y, z, t⟩ e; exact ⟨a, c, x, y, z, fun b => (e b).trans (t b)⟩
      refine this R l2 l h2 fun b => (hm b).trans ⟨?_, .inr⟩
      rintro (h | h)
      · exact (h1 b h).elim
      · exact h
  | A :: H, R, l => by
    constructor
    · rintro ⟨l1, l2, h1, h2, hd, hm⟩
      obtain ⟨m1, m2, g1, g2, gd, gm⟩ := Sep.append.1 h2
      refine ⟨l1 ++ m1, m2, ⟨l1, m1, h1, g1, fun b hb hb' => hd b hb ((gm b).2 (.inl hb')), by simp⟩, g2, ?_, ?_⟩
      · intro b hb hb'
        rcases List.mem_append.1 hb with h | h
        · exact hd b h ((gm b).2 (.inr hb'))
        · exact gd b h hb'
      · intro b
        rw [hm b, gm b, List.mem_append, or_assoc]
    · rintro ⟨l1, l2, ⟨m1, m2, g1, g2, gd, gm⟩, h2, hd, hm⟩
      refine ⟨m1, m2 ++ l2, g1, Sep.append.2 ⟨m2, l2, g2, h2, fun b hb => hd b ((gm b).2 (.inr hb)), by simp⟩, ?_, ?_⟩
      · intro b hb hb'
        rcases List.mem_append.1 hb' with h | h
        · exact gd b hb h
        · exact hd b ((gm b).2 (.inl hb)) h
      · intro b
        rw [hm b, gm b, List.mem_append, or_assoc]

theorem Sep.perm {B : Nat} {w : World} {H H' : List Asn} (hp : H.Perm H') : ∀ {l : List Nat}, Sep B w H l → Sep B w H' l := by
  induction hp with
  | nil => exact fun h => h
  | cons A _ ih => rintro l ⟨l1, l2, h1, h2, hd, hm⟩; exact ⟨l1, l2, h1, ih h2, hd, hm⟩
  | swap A A' H =>
    rintro l ⟨l1, l2, h1, ⟨m1, m2, g1, g2, gd, gm⟩, hd, hm⟩
    refine ⟨m1, l1 ++ m2, g1, ⟨l1, m2, h1, g2, fun b hb hb' => hd b hb ((gm b).2 (.inr hb')), by simp⟩, ?_, ?_⟩
    · intro b hb hb'
      rcases List.mem_append.1 hb' with h | h
      · exact hd b h ((gm b).2 (.inl hb))
      · exact gd b hb h
    · intro b
      rw [hm b, gm b, List.mem_append]
      constructor
      · rintro (h | h | h)
        · exact .inr (.inl h)
        · exact .inl h
        · exact .inr (.inr h)
      · rintro (h | h | h)
        · exact .inr (.inl h)
        · exact .inl h
        · exact .inr (.inr h)
  | trans _ _ ih1 ih2 => exact fun h => ih2 (ih1 h)

/-- Some x for which this is true, and these chunks. -/
def exA {α : Type} (F : α → Prop) (Hs : α → List Asn) : Asn where
  P B w l := ∃ x, F x ∧ Sep B w (Hs x) l
  stable := by
    rintro B w w' l ⟨x, hF, hs⟩ hz hb
    exact ⟨x, hF, hs.stable hz hb⟩
  low := by
    rintro B w l ⟨x, _, hs⟩ c hc
    exact hs.low c hc

/-- From w to w' nothing has turned but blocks of l and new ones; l': what is owned then. -/
structure Upd (w w' : World) (l l' : List Nat) : Prop where
  os : w'.os = w.os
  tape : w'.tape = w.tape
  output : w'.output = w.output
  size : w.heap.size ≤ w'.heap.size
  block : ∀ b, b < w.heap.size → b ∉ l → w'.heap[b]? = w.heap[b]?
  foot : ∀ b, b ∈ l' → b ∈ l ∨ w.heap.size ≤ b

theorem Upd.refl (w : World) (l : List Nat) : Upd w w l l := ⟨rfl, rfl, rfl, Nat.le_refl _, fun _ _ _ => rfl, fun _ h => .inl h⟩

theorem Upd.sub {w w' : World} {l l' m : List Nat} (h : Upd w w' l l') (hm : ∀ b, b ∈ m → b ∈ l') : Upd w w' l m := ⟨h.os, h.tape, h.output, h.size, h.block, fun b hb => h.foot b (hm b hb)⟩

/-- What the function whose body runs has: it began in w0 with l0. -/
def St (B : Nat) (w0 : World) (l0 : List Nat) (w : World) (H : List Asn) : Prop :=
  B ≤ w0.heap.size ∧ (∀ b, b ∈ l0 → B ≤ b ∧ b < w0.heap.size) ∧ ∃ l, Sep B w H l ∧ Upd w0 w l0 l

/-- What a call of f does. -/
def Spec (P : Program) (f : FuncId) (args : Array Value) (B : Nat) (w : World) (pre : List Asn) (post : Value → List Asn → Prop) : Prop :=
  ∀ l, B ≤ w.heap.size → Sep B w pre l → Calls P f args w (fun e w' => ∃ v, e = .returned v ∧ ∃ H' l', post v H' ∧ Sep B w' H' l' ∧ Upd w w' l l')

section
variable {B : Nat} {w0 w w' : World} {l0 : List Nat} {H R : List Asn}

theorem St.begin {l : List Nat} (hB : B ≤ w.heap.size) (h : Sep B w H l) : St B w l w H := ⟨hB, h.low, l, h, Upd.refl w l⟩

theorem St.perm (h : St B w0 l0 w H) {H' : List Asn} (hp : H.Perm H') : St B w0 l0 w H' :=
  let ⟨a, b, l, s, u⟩ := h; ⟨a, b, l, s.perm hp, u⟩

/-- chunk number j ahead. -/
theorem front_perm : ∀ (H : List Asn) (j : Nat) (hj : j < H.length), H.Perm (H[j] :: H.eraseIdx j)
  | [], _, hj => absurd hj (by simp)
  | A :: H, 0, _ => .refl _
  | A :: H, j + 1, hj => ((front_perm H j (by simpa using hj)).cons A).trans (.swap _ _ _)

theorem St.front (h : St B w0 l0 w H) (j : Nat) (hj : j < H.length) : St B w0 l0 w (H[j] :: H.eraseIdx j) := h.perm (front_perm H j hj)

theorem St.drop {A : Asn} (h : St B w0 l0 w (A :: H)) : St B w0 l0 w H := by
  obtain ⟨a, b, l, ⟨l1, l2, h1, h2, hd, hm⟩, u⟩ := h
  exact ⟨a, b, l2, h2, u.sub fun b hb => (hm b).2 (.inr hb)⟩

theorem St.size (h : St B w0 l0 w H) : B ≤ w.heap.size := let ⟨a, _, _, _, u⟩ := h; Nat.le_trans a u.size

theorem St.sep (h : St B w0 l0 w H) : ∃ l, Sep B w H l := let ⟨_, _, l, s, _⟩ := h; ⟨l, s⟩

/-- The first chunks' own blocks; whatever turns but these, and new ones. -/
theorem St.part {pre : List Asn} (h : St B w0 l0 w (pre ++ R)) : ∃ l1, Sep B w pre l1 ∧ ∀ w' post l', Sep B w' post l' → Upd w w' l1 l' → St B w0 l0 w' (post ++ R) := by
  obtain ⟨a, b, l, s, u⟩ := h
  obtain ⟨l1, l2, s1, s2, hd, hm⟩ := Sep.append.1 s
  refine ⟨l1, s1, ?_⟩
  intro w' post l' s' u'
  refine ⟨a, b, l' ++ l2, Sep.append.2 ⟨l', l2, s', ?_, ?_, by simp⟩, ?_⟩
  · refine s2.stable u'.size fun b hs hb => u'.block b hs fun hb1 => ?_
    rcases hb with hb | hb
    · have := (s1.low b hb1).1; omega
    · exact hd b hb1 hb
  · intro b hb hb2
    rcases u'.foot b hb with h | h
    · exact hd b h hb2
    · have := (s2.low b hb2).2; omega
  · refine ⟨u'.os.trans u.os, u'.tape.trans u.tape, u'.output.trans u.output, Nat.le_trans u.size u'.size, ?_, ?_⟩
    · intro b hb hb0
      rw [u'.block b (Nat.lt_of_lt_of_le hb u.size) fun hb1 => ?_, u.block b hb hb0]
      rcases u.foot b ((hm b).2 (.inl hb1)) with h | h
      · exact hb0 h
      · omega
    · intro b hb
      rcases List.mem_append.1 hb with h | h
      · rcases u'.foot b h with h | h
        · exact u.foot b ((hm b).2 (.inl h))
        · exact .inr (Nat.le_trans u.size h)
      · exact u.foot b ((hm b).2 (.inr h))

/-- Something happens that turns but what the first chunks own, and new blocks. -/
theorem St.step {pre post : List Asn} (h : St B w0 l0 w (pre ++ R)) (hs : ∀ l, Sep B w pre l → ∃ l', Sep B w' post l' ∧ Upd w w' l l') : St B w0 l0 w' (post ++ R) := by
  obtain ⟨l1, s1, k⟩ := h.part
  obtain ⟨l', s', u'⟩ := hs l1 s1
  exact k w' post l' s' u'

/-- .. of the first chunk. -/
theorem St.step1 {A : Asn} {post : List Asn} (h : St B w0 l0 w (A :: R)) (hs : ∀ l, A.P B w l → ∃ l', Sep B w' post l' ∧ Upd w w' l l') : St B w0 l0 w' (post ++ R) := by
  refine St.step (pre := [A]) h ?_
  rintro l ⟨l1, l2, h1, h2, hd, hm⟩
  obtain ⟨l', s', u'⟩ := hs l1 h1
  refine ⟨l', s', u'.os, u'.tape, u'.output, u'.size, ?_, ?_⟩
  · intro b hb hbl
    exact u'.block b hb fun h => hbl ((hm b).2 (.inl h))
  · intro b hb
    exact (u'.foot b hb).imp (fun h => (hm b).2 (.inl h)) id

/-- Nothing turns but new blocks. -/
theorem St.step0 {post : List Asn} (h : St B w0 l0 w R) (hs : ∃ l', Sep B w' post l' ∧ Upd w w' [] l') : St B w0 l0 w' (post ++ R) := by
  refine St.step (pre := []) h ?_
  intro l hl
  obtain ⟨l', s', u'⟩ := hs
  exact ⟨l', s', u'.os, u'.tape, u'.output, u'.size, fun b hb _ => u'.block b hb (by simp), fun b hb => .inr ((u'.foot b hb).resolve_left (by simp))⟩

theorem Upd.drew (w : World) : Upd w w.drew [] [] := ⟨rfl, rfl, rfl, Nat.le_refl _, fun _ _ _ => rfl, fun _ h => .inl h⟩

theorem St.drew (h : St B w0 l0 w H) : St B w0 l0 w.drew H := St.step0 (post := []) h ⟨[], fun b => by simp, Upd.drew w⟩

/-- What the chunks make true. -/
def Ent (H : List Asn) (F : World → Prop) : Prop := ∀ B w l, B ≤ w.heap.size → Sep B w H l → F w

theorem Ent.here {A : Asn} {F : World → Prop} (h : ∀ B w l, B ≤ w.heap.size → A.P B w l → F w) : Ent (A :: H) F := fun B w _ hB ⟨_, _, h1, _⟩ => h B w _ hB h1
theorem Ent.there {A : Asn} {F : World → Prop} (h : Ent H F) : Ent (A :: H) F := fun B w _ hB ⟨_, _, _, h2, _⟩ => h B w _ hB h2
theorem Ent.mono {F G : World → Prop} (h : Ent H F) (hf : ∀ w, F w → G w) : Ent H G := fun B w l hB hs => hf w (h B w l hB hs)
theorem St.ent {F : World → Prop} (h : St B w0 l0 w H) (he : Ent H F) : F w := by
  have hB := h.size
  obtain ⟨_, _, l, s, _⟩ := h
  exact he B w l hB s

/-- A chunk is another view of the same blocks. -/
theorem St.conv {A A' : Asn} (h : St B w0 l0 w (A :: R)) (hs : ∀ l, B ≤ w.heap.size → A.P B w l → A'.P B w l) : St B w0 l0 w (A' :: R) := by
  have hB := h.size
  exact St.step1 (post := [A']) h fun l hl => ⟨l, ⟨l, [], hs l hB hl, fun b => by simp, fun b _ => by simp, by simp⟩, Upd.refl w l⟩

theorem St.to {A : Asn} {post : List Asn} (h : St B w0 l0 w (A :: R)) (hs : ∀ l, A.P B w l → Sep B w post l) : St B w0 l0 w (post ++ R) :=
  St.step1 h fun l hl => ⟨l, hs l hl, Upd.refl w l⟩

theorem St.of {pre : List Asn} {A : Asn} (h : St B w0 l0 w (pre ++ R)) (hs : ∀ l, Sep B w pre l → A.P B w l) : St B w0 l0 w (A :: R) :=
  St.step (pre := pre) (post := [A]) h fun l hl => ⟨l, ⟨l, [], hs l hl, fun b => by simp, fun b _ => by simp, by simp⟩, Upd.refl w l⟩

/-- Some x for which F x is true: the chunks of x. -/
theorem St.open {α : Type} {F : α → Prop} {Hs : α → List Asn} (h : St B w0 l0 w (exA F Hs :: R)) : ∃ x, F x ∧ St B w0 l0 w (Hs x ++ R) := by
  have hw : Upd w w [] [] := Upd.refl w []
  obtain ⟨l1, ⟨m1, m2, ⟨x, hF, hx⟩, k1, _, k3⟩, key⟩ := St.part (pre := [exA F Hs]) h
  exact ⟨x, hF, key w (Hs x) m1 hx ((Upd.refl w l1).sub fun b hb => (k3 b).2 (.inl hb))⟩

theorem St.close {α : Type} {F : α → Prop} {Hs : α → List Asn} (x : α) (hF : F x) (h : St B w0 l0 w (Hs x ++ R)) : St B w0 l0 w (exA F Hs :: R) :=
  St.of h fun _ hl => ⟨x, hF, hl⟩
end

/-! ### chunks -/

/-- Block b holds just this. -/
def blk (b : Nat) (o : Obj) : Asn where
  P B w l := B ≤ b ∧ w.heap[b]? = some o ∧ l = [b]
  stable := by
    rintro B w w' l ⟨h1, h2, rfl⟩ hz hb
    exact ⟨h1, (hb b (Array.getElem?_eq_some_iff.1 h2).1 (.inr (by simp))).trans h2, rfl⟩
  low := by
    rintro B w l ⟨h1, h2, rfl⟩ c hc
    simp only [List.mem_singleton] at hc
    subst hc
    exact ⟨h1, (Array.getElem?_eq_some_iff.1 h2).1⟩

/-- A slice of the call's own: n elements of type e, of size cells each, that are xs. -/
def rowA (e : TypeId) (size : Nat) (v : Value) (n : Nat) (xs : List Value) : Asn where
  P B w l := w.ownsRow B e size v n xs ∧ l = v.ownBlock.toList
  stable := by
    rintro B w w' l ⟨h, rfl⟩ hz hb
    refine ⟨?_, rfl⟩
    have hlt := h.lt
    obtain ⟨h1, h2⟩ := h
    refine ⟨h1, h2.imp id ?_⟩
    rintro ⟨g, cap, cur, rfl, hg, hh, r⟩
    exact ⟨g, cap, cur, rfl, hg, (hb g (Array.getElem?_eq_some_iff.1 hh).1 (.inr (by simp [Value.ownBlock]))).trans hh, r⟩
  low := by
    rintro B w l ⟨h, rfl⟩ c hc
    exact h.lt c (by simpa using hc)

/-- Cells below B that hold these values. -/
def lowA (a : Option Addr) (cs : List Value) : Asn where
  P B w l := l = [] ∧ (a = none → cs = []) ∧ ∀ ad, a = some ad → ∀ j v, cs[j]? = some v → ad.block < B ∧ w.cell? (ad.add j) = some v
  stable := by
    rintro B w w' l ⟨rfl, h0, h⟩ hz hb
    refine ⟨rfl, h0, fun ad ha j v hv => ?_⟩
    obtain ⟨h1, h3⟩ := h ad ha j v hv
    have e : (ad.add j).block = ad.block := by unfold Addr.add; split <;> rfl
    have h2 := World.block_lt_of_cell? w _ h3
    refine ⟨h1, ?_⟩
    rw [World.cell?_of_block (w := w) (by rw [e]; exact hb _ (by rw [e] at h2; exact h2) (.inl h1))]
    exact h3
  low := by
    rintro B w l ⟨rfl, _⟩ c hc
    simp at hc

/-- These cells, behind an address (of none: no cells). -/
def CellsAt (a : Option Addr) (cs : List Value) (w : World) : Prop :=
  match a with
  | none => cs = []
  | some ad => ∀ j v, cs[j]? = some v → w.cell? (ad.add j) = some v

theorem rowA_shape {e : TypeId} {size : Nat} {v : Value} {n : Nat} {xs : List Value} {B : Nat} {w : World} {l : List Nat} (h : (rowA e size v n xs).P B w l) :
    xs.length = n * size ∧ ((v = .slice none 0 0 ∧ n = 0 ∧ xs = [] ∧ l = []) ∨ ∃ g cap, v = .slice (some ⟨g, 0, none⟩) n cap ∧ l = [g]) := by
  obtain ⟨h, rfl⟩ := h
  obtain ⟨h1, h2⟩ := h
  refine ⟨h1, ?_⟩
  rcases h2 with ⟨rfl, rfl⟩ | ⟨g, cap, cur, rfl, _⟩
  · exact .inl ⟨rfl, rfl, List.eq_nil_of_length_eq_zero (by simpa using h1), rfl⟩
  · exact .inr ⟨g, cap, rfl, rfl⟩

theorem rowA_cells {e : TypeId} {size : Nat} {a : Option Addr} {k c : Nat} {n : Nat} {xs : List Value} {B : Nat} {w : World} {l : List Nat} (h : (rowA e size (.slice a k c) n xs).P B w l) :
    CellsAt a xs w := by
  obtain ⟨h, rfl⟩ := h
  have h1 := h.1
  rcases h.2 with ⟨hv, rfl⟩ | ⟨g, cap, cur, hv, _⟩
  · cases hv; exact List.eq_nil_of_length_eq_zero (by simpa using h1)
  · cases hv
    exact h.cells rfl

/-! ### operations that touch memory -/

def dstOf (ops : Array Oper) (i : Nat) : Option Tmp := (ops[i]?).bind (·.dst)

/-- operation i, if it is wanted, and its slot is there. -/
def opQ (ops : Array Oper) (i : Nat) (s : Fs) : Option Oper :=
  match ops[i]? with
  | some o => match Region.wanted o (yieldS ops s) with
    | true => match inB o.dst s.n with
      | true => some o
      | false => none
    | false => none
  | none => none

theorem opQ_some' {ops : Array Oper} {i : Nat} {s : Fs} {o : Oper} (h : opQ ops i s = some o) : ops[i]? = some o ∧ Region.wanted o (yieldS ops s) = true ∧ dstOf ops i = o.dst ∧ inB o.dst s.n = true := by
  unfold opQ at h
  split at h
  · rename_i o' ho
    split at h
    · rename_i hw
      split at h
      · rename_i hd
        cases h
        exact ⟨ho, hw, by simp [dstOf, ho], hd⟩
      · cases h
    · cases h
  · cases h

section
variable {M : Bool} {P : Program} {ops : Array Oper} {i : Nat} {s : Fs} {w w' : World} {K : Fs → World → Prop}

/-- one operation that gives a value, and may leave another world. -/
def valQ (P : Program) (ops : Array Oper) (i : Nat) (s : Fs) (w : World) : Option (Value × World) :=
  match opQ ops i s with
  | some o => match (execOp (evS s) o).run P w with
    | .ok (.value v) w' => some (v, w')
    | .ok .skip w' => some (undef, w')
    | _ => none
  | none => none

theorem ops_valQ {v v' : Value} (hq : valQ P ops i s w = some (v, w')) (hv : v = v') (hk : OpsAt M P ops (i + 1) (putS s (dstOf ops i) v') w' K) : OpsAt M P ops i s w K := by
  subst hv
  unfold valQ at hq
  split at hq
  · rename_i o ho
    obtain ⟨h1, h2, h3, h4⟩ := opQ_some' ho
    rw [h3] at hk
    split at hq
    · rename_i v' w1 hr; cases hq; exact ops_value h1 h2 h4 hr hk
    · rename_i w1 hr; cases hq; exact ops_skipped h1 h2 h4 hr hk
    · cases hq
  · cases hq

theorem ops_val {v v' : Value} (hq : valQ P ops i s w = some (v, w)) (hv : v = v') (hk : OpsAt M P ops (i + 1) (putS s (dstOf ops i) v') w K) : OpsAt M P ops i s w K := ops_valQ hq hv hk

/-- one operation, by what its run is. -/
theorem ops_runs {o : Oper} {v : Value} (ho : opQ ops i s = some o) (hr : (execOp (evS s) o).run P w = .ok (.value v) w') (hk : OpsAt M P ops (i + 1) (putS s (dstOf ops i) v) w' K) : OpsAt M P ops i s w K := by
  obtain ⟨h1, h2, h3, h4⟩ := opQ_some' ho
  rw [h3] at hk
  exact ops_value h1 h2 h4 hr hk

theorem ops_runs0 {o : Oper} (ho : opQ ops i s = some o) (hr : (execOp (evS s) o).run P w = .ok .skip w') (hk : OpsAt M P ops (i + 1) (putS s (dstOf ops i) undef) w' K) : OpsAt M P ops i s w K := by
  obtain ⟨h1, h2, h3, h4⟩ := opQ_some' ho
  rw [h3] at hk
  exact ops_skipped h1 h2 h4 hr hk

/-- Operation i is wanted, and gives v, and the world w'. -/
def RunsTo (P : Program) (ops : Array Oper) (i : Nat) (s : Fs) (w : World) (v : Value) (w' : World) : Prop :=
  ∃ o, opQ ops i s = some o ∧ (execOp (evS s) o).run P w = .ok (.value v) w'

theorem ops_R {v : Value} (h : RunsTo P ops i s w v w') (hk : OpsAt M P ops (i + 1) (putS s (dstOf ops i) v) w' K) : OpsAt M P ops i s w K :=
  let ⟨_, ho, hr⟩ := h; ops_runs ho hr hk

/-- a load of one cell: its address. -/
def loadQ (P : Program) (ops : Array Oper) (i : Nat) (s : Fs) : Option Addr :=
  match opQ ops i s with
  | some o => match o.op with
    | .load t x => match P.underlying t with
      | some (.struct _) => none
      | some (.array _ _) => none
      | none => none
      | some _ => match evS s x with
        | .pointer (some a) => some a
        | _ => none
    | _ => none
  | none => none

theorem runs_load {ad : Addr} {v : Value} (hq : loadQ P ops i s = some ad) (hc : w.cell? ad = some v) : RunsTo P ops i s w v w := by
  unfold loadQ at hq
  split at hq
  · rename_i o ho
    split at hq
    · rename_i t x hop
      refine ⟨_, ho, ?_⟩
      split at hq
      · cases hq
      · cases hq
      · cases hq
      · rename_i d h1 h2 hu
        split at hq
        · rename_i a hx
          cases hq
          have hag : (isAgg t).run P w = .ok false w := by
            unfold isAgg
            rw [Sem.run_bind, run_underlying hu]
            simp only [Result.andThen_ok]
            cases d <;> first | rfl | exact (h1 _ rfl).elim | exact (h2 _ _ rfl).elim
          simp only [execOp, hop, hx, Instr.loadAt, Instr.sureAddr, loadVar, Sem.run_bind, Sem.run_pure, Result.andThen_ok, hag, load]
          simp [Sem.run, hc]
        · cases hq
    · cases hq
  · cases hq

/-- a load of a whole struct or array: its address and how many cells. -/
def loadAggQ (P : Program) (ops : Array Oper) (i : Nat) (s : Fs) : Option (Addr × Nat) :=
  match opQ ops i s with
  | some o => match o.op with
    | .load t x => match P.underlying t, P.info? t, evS s x with
      | some (.struct _), some f, .pointer (some a) => some (a, f.size)
      | some (.array _ _), some f, .pointer (some a) => some (a, f.size)
      | _, _, _ => none
    | _ => none
  | none => none

theorem runs_loadAgg {ad : Addr} {cs : List Value} (hq : loadAggQ P ops i s = some (ad, cs.length)) (hc : ∀ j v, cs[j]? = some v → w.cell? (ad.add j) = some v) : RunsTo P ops i s w (.agg cs.toArray) w := by
  unfold loadAggQ at hq
  split at hq
  · rename_i o ho
    split at hq
    · rename_i t x hop
      refine ⟨_, ho, ?_⟩
      have key : ∀ (d : TypeDesc) (f : TypeInfo) (a : Addr), P.underlying t = some d → P.info? t = some f → evS s x = .pointer (some a) → (match d with | .struct _ | .array _ _ => true | _ => false) = true → some (a, f.size) = some (ad, cs.length) →
          (execOp (evS s) o).run P w = .ok (.value (.agg cs.toArray)) w := by
        intro d f a hu hi hx hd he
        simp only [Option.some.injEq, Prod.mk.injEq] at he
        obtain ⟨rfl, hn⟩ := he
        have hag : (isAgg t).run P w = .ok true w := by
          unfold isAgg
          rw [Sem.run_bind, run_underlying hu]
          simp only [Result.andThen_ok]
          cases d <;> first | rfl | simp at hd
        have hsz : (sizeOf t).run P w = .ok f.size w := by
          simp [sizeOf, typeInfo, hi]
        have hl := run_loadCells_list (P := P) w a cs hc
        rw [← hn] at hl
        simp only [execOp, hop, hx, Instr.loadAt, Instr.sureAddr, loadVar, Sem.run_bind, Sem.run_pure, Result.andThen_ok, hag, hsz, if_true, hl]
      split at hq
      · rename_i hu hi hx; exact key _ _ _ hu hi hx rfl hq
      · rename_i hu hi hx; exact key _ _ _ hu hi hx rfl hq
      · cases hq
    · cases hq
  · cases hq

/-- a store: its address and the cells. -/
def storeQ (P : Program) (ops : Array Oper) (i : Nat) (s : Fs) : Option (Addr × List Value) :=
  match opQ ops i s with
  | some o => match o.op with
    | .store t x y => match P.info? t, evS s x with
      | some f, .pointer (some a) => match decide ((evS s y).cells.size = f.size) with
        | true => some (a, (evS s y).cells.toList)
        | false => none
      | _, _ => none
    | _ => none
  | none => none

/-- a list with some values written into it from a place on. -/
def writeAt (cs : List Value) (off : Nat) : List Value → List Value
  | [] => cs
  | v :: r => writeAt (cs.set off v) (off + 1) r

theorem writeAt_length : ∀ (vs cs : List Value) (off : Nat), (writeAt cs off vs).length = cs.length
  | [], _, _ => rfl
  | v :: r, cs, off => by rw [writeAt, writeAt_length r]; simp

theorem run_storeCells_blk (b : Nat) (t : TypeId) (off : Nat) : ∀ (vs : List Value) (k : Nat) (cs : List Value) (w : World), w.heap[b]? = some (.cells cs.toArray t (0, 0)) →
    off + k + vs.length ≤ cs.length → vs.all Value.oneCell' = true →
    ∃ w', (storeCells ⟨b, off, none⟩ vs k).run P w = .ok () w' ∧ w'.heap[b]? = some (.cells (writeAt cs (off + k) vs).toArray t (0, 0)) ∧ Upd w w' [b] [b]
  | [], k, cs, w, hb, _, _ => ⟨w, rfl, hb, Upd.refl w [b]⟩
  | v :: r, k, cs, w, hb, hl, hv => by
    simp only [List.all_cons, Bool.and_eq_true, List.length_cons] at hv hl
    have hadd : (⟨b, off, none⟩ : Addr).add k = ⟨b, off + k, none⟩ := by unfold Addr.add; split <;> simp_all
    have hcell : w.cell? ⟨b, off + k, none⟩ = some (cs[off + k]'(by omega)) := by
      simp only [World.cell?, hb]
      simp
    have hfr : w.frozen? ⟨b, off + k, none⟩ = false := by
      simp only [World.frozen?, hb]
      simp
    have hblock : b < w.heap.size := (Array.getElem?_eq_some_iff.1 hb).1
    have hset : (w.setCell ⟨b, off + k, none⟩ v).heap[b]? = some (.cells ((cs.set (off + k) v).toArray) t (0, 0)) := by
      simp [World.setCell, Array.getElem?_modify, hb]
    obtain ⟨w', h1, h2, h3⟩ := run_storeCells_blk b t off r (k + 1) (cs.set (off + k) v) (w.setCell ⟨b, off + k, none⟩ v) hset (by simp; omega) hv.2
    refine ⟨w', ?_, ?_, ?_⟩
    · rw [storeCells, Sem.run_bind, hadd]
      have hst : (store ⟨b, off + k, none⟩ v).run P w = .ok () (w.setCell ⟨b, off + k, none⟩ v) := by
        rw [run_store P w _ v _ hv.1]
        simp [hcell, hfr]
      rw [hst]
      simp only [Result.andThen_ok]
      exact h1
    · rw [writeAt]
      exact h2
    · refine ⟨h3.os, h3.tape, h3.output, ?_, ?_, fun c hc => .inl hc⟩
      · have := h3.size; simpa using this
      · intro c hc hn
        rw [h3.block c (by simpa using hc) hn]
        simp only [List.mem_singleton] at hn
        exact Below.heap_setCell _ _ _ _ hn

theorem ops_store {B : Nat} {w0 : World} {l0 : List Nat} {R : List Asn} {b off : Nat} {vs cs : List Value} {t : TypeId} (hs : St B w0 l0 w (blk b (.cells cs.toArray t (0, 0)) :: R))
    (hq : storeQ P ops i s = some (⟨b, off, none⟩, vs)) (hl : off + vs.length ≤ cs.length) (hv : vs.all Value.oneCell' = true)
    (hk : ∀ w', St B w0 l0 w' (blk b (.cells (writeAt cs off vs).toArray t (0, 0)) :: R) → OpsAt M P ops (i + 1) (putS s (dstOf ops i) undef) w' K) : OpsAt M P ops i s w K := by
  have hb : w.heap[b]? = some (.cells cs.toArray t (0, 0)) := by
    obtain ⟨l, hsep⟩ := hs.sep
    obtain ⟨_, _, h1, _⟩ := hsep
    exact h1.2.1
  obtain ⟨w', h1, h2, h3⟩ := run_storeCells_blk (P := P) b t off vs 0 cs w hb (by simpa using hl) hv
  have hst : St B w0 l0 w' (blk b (.cells (writeAt cs off vs).toArray t (0, 0)) :: R) := by
    refine St.step1 (post := [blk b (.cells (writeAt cs off vs).toArray t (0, 0))]) hs ?_
    rintro l ⟨g1, g2, rfl⟩
    exact ⟨[b], ⟨[b], [], ⟨g1, h2, rfl⟩, fun c => by simp, fun c _ => by simp, by simp⟩, h3⟩
  have hk' := hk w' hst
  unfold storeQ at hq
  split at hq
  · rename_i o ho
    split at hq
    · rename_i ty x y hop
      refine ops_runs0 ho ?_ hk'
      split at hq
      · rename_i f a hi hx
        split at hq
        · rename_i hsz
          simp only [Option.some.injEq, Prod.mk.injEq] at hq
          obtain ⟨rfl, rfl⟩ := hq
          have hz := of_decide_eq_true hsz
          have hso : (sizeOf ty).run P w = .ok f.size w := by simp [sizeOf, typeInfo, hi]
          simp only [execOp, hop, hx, Instr.storeAt, Instr.sureAddr, storeVar, Sem.run_bind, Sem.run_pure, Result.andThen_ok, hso, hz, ne_eq, not_true_eq_false, if_false, h1]
        · cases hq
      · cases hq
    · cases hq
  · cases hq

/-- an operation that makes one new block: the value that it gives, by the block's number. -/
theorem ops_new {B : Nat} {w0 : World} {l0 : List Nat} {R : List Asn} (f : Nat → Value) (ob : Obj) (hs : St B w0 l0 w R)
    (hq : valQ P ops i s w = some (f w.heap.size, w.alloc ob)) (hk : ∀ b w', St B w0 l0 w' (blk b ob :: R) → OpsAt M P ops (i + 1) (putS s (dstOf ops i) (f b)) w' K) : OpsAt M P ops i s w K := by
  refine ops_valQ hq rfl (hk _ _ ?_)
  have hB := hs.size
  refine St.step0 (post := [blk w.heap.size ob]) hs ⟨[w.heap.size], ⟨[w.heap.size], [], ⟨hB, ?_, rfl⟩, fun c => by simp, fun c _ => by simp, by simp⟩, ?_⟩
  · exact heap_alloc_new w ob
  · refine ⟨rfl, rfl, rfl, by simp, fun c hc _ => Below.heap_alloc _ _ _ hc, fun c hc => .inr ?_⟩
    simp only [List.mem_singleton] at hc
    omega

/-- a call: the function and its arguments. -/
def callQ (P : Program) (ops : Array Oper) (i : Nat) (s : Fs) (w : World) : Option (FuncId × Array Value × World) :=
  match opQ ops i s with
  | some o => match (execOp (evS s) o).run P w with
    | .ok (.enter f args) w' => some (f, args, w')
    | _ => none
  | none => none

theorem ops_call {B : Nat} {w0 : World} {l0 : List Nat} {pre R : List Asn} {f : FuncId} {args : Array Value} {post : Value → List Asn → Prop} (hs : St B w0 l0 w (pre ++ R))
    (hq : callQ P ops i s w = some (f, args, w)) (hc : Spec P f args B w pre post)
    (hk : ∀ v H' w', post v H' → St B w0 l0 w' (H' ++ R) → OpsAt M P ops (i + 1) (putS s (dstOf ops i) v) w' K) : OpsAt M P ops i s w K := by
  unfold callQ at hq
  split at hq
  · rename_i o ho
    obtain ⟨h1, h2, h3, h4⟩ := opQ_some' ho
    rw [h3] at hk
    split at hq
    · rename_i f' args' w1 hr
      simp only [Option.some.injEq, Prod.mk.injEq] at hq
      obtain ⟨rfl, rfl, rfl⟩ := hq
      refine ops_enter h1 h2 h4 hr ?_
      have hB := hs.size
      obtain ⟨l1, s1, key⟩ := hs.part
      refine Calls.mono (hc l1 hB s1) ?_
      rintro e w'' ⟨v, rfl, H', l', hp, hsep', hu⟩
      exact ⟨v, rfl, hk v H' w'' hp (key w'' H' l' hsep' hu)⟩
    · cases hq
  · cases hq
end

/-- A body that ends as it should is a contract. -/
theorem spec_W {P : Program} {f : FuncId} {fn : Func} {c : Code} {args : Array Value} {B : Nat} {w : World} {pre : List Asn} {post : Value → List Asn → Prop}
    (hf : P.funcs[f]? = some fn) (hb : fn.body = some c)
    (h : ∀ l0, St B w l0 w pre → W P c (initF fn.ntmps args) w (retQ P fn fun v w' => ∃ H', post v H' ∧ St B w l0 w' H')) : Spec P f args B w pre post := by
  intro l hB hs
  refine (calls_W hf hb (h l (St.begin hB hs))).mono ?_
  rintro e w' ⟨v, rfl, H', hp, _, _, l', hs', hu⟩
  exact ⟨v, rfl, H', l', hp, hs', hu⟩

theorem ret_of {P : Program} {fn : Func} {R : Value → World → Prop} {s : Fs} {w : World} (v : Value) (h : (resS fn s).run P w = .ok v w) (hR : R v w) : retQ P fn R .ret s w := leave_of h hR

end Go.Proofs.YthimamnblklkbaaDoor
