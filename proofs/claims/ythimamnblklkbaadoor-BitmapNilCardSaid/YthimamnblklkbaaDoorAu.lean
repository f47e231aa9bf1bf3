/- Code as a plain function of what it is given: what may fail is none; loops by rounds; where ways meet. -/
import Derived.Test.YthimamnblklkbaaDoorLs
namespace Go.Proofs.YthimamnblklkbaaDoor
open Go Go.RowKit

/-- x, where p holds. -/
def need {α : Type} (p : Prop) [Decidable p] (x : Option α) : Option α := if p then x else none
theorem need_some {α : Type} {p : Prop} {inst : Decidable p} {x : Option α} {r : α} (h : @need α p inst x = some r) : p ∧ x = some r := by
  unfold need at h
  split at h
  · rename_i hp; exact ⟨hp, h⟩
  · cases h
theorem need_of {α : Type} {p : Prop} {inst : Decidable p} {x y : Option α} (hp : p) (h : x = y) : @need α p inst x = y := by
  unfold need; rw [if_pos hp]; exact h
theorem ite_yes {α : Type} {p : Prop} {inst : Decidable p} {a b x : α} (e : @ite α p inst a b = x) (h : p) : a = x := by rw [if_pos h] at e; exact e
theorem ite_no {α : Type} {p : Prop} {inst : Decidable p} {a b x : α} (e : @ite α p inst a b = x) (h : ¬ p) : b = x := by rw [if_neg h] at e; exact e
theorem ite_both {α : Type} {p : Prop} {inst : Decidable p} {a b x : α} (h1 : p → a = x) (h2 : ¬ p → b = x) : @ite α p inst a b = x := by
  by_cases h : p
  · rw [if_pos h]; exact h1 h
  · rw [if_neg h]; exact h2 h
theorem bind_some {α β : Type} {o : Option α} {f : α → Option β} {r : β} (h : o.bind f = some r) : ∃ y, o = some y ∧ f y = some r := by
  cases o with
  | none => cases h
  | some y => exact ⟨y, rfl, h⟩
theorem bind_of {α β : Type} {o : Option α} {f : α → Option β} {y : α} {r : Option β} (h : o = some y) (h2 : f y = r) : o.bind f = r := by
  subst h; exact h2

/-- rounds, at most n. -/
def iter {σ ρ : Type} (body : (σ → Option ρ) → σ → Option ρ) : Nat → σ → Option ρ
  | 0, _ => none
  | n + 1, s => body (iter body n) s
def FUEL : Nat := 18446744073709551616

/-- rounds by what holds at each round's head, and a number that falls. -/
theorem iter_run {σ ρ : Type} {body : (σ → Option ρ) → σ → Option ρ} {r : ρ} (I : σ → Prop) (μ : σ → Nat) (step : ∀ (k : σ → Option ρ) (s : σ), I s → (∀ s', I s' → μ s' < μ s → k s' = some r) → body k s = some r) :
    ∀ (n : Nat) (s : σ), I s → μ s < n → iter body n s = some r := by
  intro n
  induction n with
  | zero => intro s _ h; omega
  | succ n ih =>
    intro s hs hm
    exact step _ s hs fun s' hs' hlt => ih s' hs' (by omega)

/-! ### what a plain function comes to -/
/-- x is there, and R holds of it. -/
def Ok {ρ : Type} (R : ρ → Prop) (x : Option ρ) : Prop := ∃ r, x = some r ∧ R r
section
variable {α ρ σ : Type} {R : ρ → Prop}
theorem Ok.some {r : ρ} (h : R r) : Ok R (some r) := ⟨r, rfl, h⟩
theorem Ok.need {p : Prop} {inst : Decidable p} {x : Option ρ} (hp : p) (h : Ok R x) : Ok R (@Go.Proofs.YthimamnblklkbaaDoor.need ρ p inst x) := by
  obtain ⟨r, hx, hr⟩ := h
  exact ⟨r, need_of hp hx, hr⟩
theorem Ok.bind {S : α → Prop} {o : Option α} {f : α → Option ρ} (h : Ok S o) (hf : ∀ y, S y → Ok R (f y)) : Ok R (o.bind f) := by
  obtain ⟨y, rfl, hy⟩ := h
  exact hf y hy
/-- a name for an answer. -/
theorem Ok.name {e : α} {f : α → Option ρ} (hf : ∀ y, y = e → Ok R (f y)) : Ok R ((Option.some e).bind f) := hf e rfl
theorem Ok.ite {p : Prop} {inst : Decidable p} {a b : Option ρ} (h1 : p → Ok R a) (h2 : ¬ p → Ok R b) : Ok R (@_root_.ite (Option ρ) p inst a b) := by
  by_cases h : p
  · rw [if_pos h]; exact h1 h
  · rw [if_neg h]; exact h2 h
theorem Ok.yes {p : Prop} {inst : Decidable p} {a b : Option ρ} (h : p) (h1 : Ok R a) : Ok R (@_root_.ite (Option ρ) p inst a b) := by rw [if_pos h]; exact h1
theorem Ok.no {p : Prop} {inst : Decidable p} {a b : Option ρ} (h : ¬ p) (h1 : Ok R b) : Ok R (@_root_.ite (Option ρ) p inst a b) := by rw [if_neg h]; exact h1
theorem Ok.mono {R' : ρ → Prop} {x : Option ρ} (h : Ok R x) (hr : ∀ r, R r → R' r) : Ok R' x := let ⟨r, h1, h2⟩ := h; ⟨r, h1, hr r h2⟩
theorem Ok.true {x : Option Bool} (h : Ok (· = true) x) : x = Option.some true := by
  obtain ⟨r, h1, h2⟩ := h
  rw [h1, h2]
/-- rounds, by what holds at each round's head, and a number that falls. -/
theorem Ok.iter {body : (σ → Option ρ) → σ → Option ρ} (I : σ → Prop) (μ : σ → Nat) (step : ∀ (k : σ → Option ρ) (s : σ), I s → (∀ s', I s' → μ s' < μ s → Ok R (k s')) → Ok R (body k s)) :
    ∀ (n : Nat) (s : σ), I s → μ s < n → Ok R (Go.Proofs.YthimamnblklkbaaDoor.iter body n s) := by
  intro n
  induction n with
  | zero => intro s _ h; omega
  | succ n ih =>
    intro s hs hm
    exact step _ s hs fun s' hs' hlt => ih s' hs' (by omega)
end
theorem fuel_lt {n : Nat} (h : n < 18446744073709551616) : n < FUEL := h

section
variable {P : Program} {c x y : Code} {s : Fs} {w : World} {Q : Exit → Fs → World → Prop}

theorem W.seq_join (J : Fs → World → Prop) (hy : ∀ s w, J s w → W P y s w Q) (hx : W P x s w (seqQ J Q)) : W P (.seq x y) s w Q := by
  refine W.seq fun K hK => hx.mono ?_
  intro e s w h
  cases e with
  | normal => exact hK _ _ (hy _ _ h)
  | _ => exact h

/-- the slots written out. -/
theorem W.norm {n : Nat} {l : List (Nat × Value)} (h : ((s.n, s.r, s.d), l.map fun p => s.f p.1) = ((n, none, []), l.map (·.2))) (hk : ∀ us, W P c (slots n l us) w Q) : W P c s w Q := by
  obtain ⟨us, rfl⟩ := slots_intro s h
  exact hk us

theorem W.loop_iter {G σ ρ : Type} {body : (σ → Option ρ) → σ → Option ρ} {r : ρ} {n : Nat} (T : G → σ) (J : G → Fs → World → Prop) (g : G) (h0 : J g s w) (hm : iter body n (T g) = some r)
    (round : ∀ k : σ → Option ρ, (∀ g s w, J g s w → k (T g) = some r → LoopAt P c Q s w) → ∀ g s w, J g s w → body k (T g) = some r → W P c s w (seqQ (fun s' w' => LoopAt P c Q s' w') Q)) : W P (.loop c) s w Q := by
  refine W.loop_start ?_
  have key : ∀ (n : Nat) (g : G) (s : Fs) (w : World), J g s w → iter body n (T g) = some r → LoopAt P c Q s w := by
    intro n
    induction n with
    | zero => intro g s w _ h; cases h
    | succ n ih =>
      intro g s w hj h
      exact loopAt_round (round _ ih g s w hj h)
  exact key n g s w h0 hm
end

theorem wrap_u16 {z : Int} (h1 : 0 ≤ z) (h2 : z < 65536) : IntKind.u16.wrap z = z := by
  have e : (2 : Int) ^ IntKind.u16.bits = 65536 := by decide
  unfold IntKind.wrap
  simp only [e, IntKind.signed, Bool.false_and, Bool.false_eq_true, if_false]
  omega
theorem wrap_u32 {z : Int} (h1 : 0 ≤ z) (h2 : z < 4294967296) : IntKind.u32.wrap z = z := by
  have e : (2 : Int) ^ IntKind.u32.bits = 4294967296 := by decide
  unfold IntKind.wrap
  simp only [e, IntKind.signed, Bool.false_and, Bool.false_eq_true, if_false]
  omega
theorem wrap_u8_mod (z : Int) : IntKind.u8.wrap z = z % 256 := by
  have e : (2 : Int) ^ IntKind.u8.bits = 256 := by decide
  unfold IntKind.wrap
  simp only [e, IntKind.signed, Bool.false_and, Bool.false_eq_true, if_false]

theorem nat_of {z : Int} (h : 0 ≤ z) : z = ((z.toNat : Nat) : Int) := (Int.toNat_of_nonneg h).symm
theorem lt_toNat {z : Int} {n : Nat} (h : 0 ≤ z ∧ z < (n : Int)) : z.toNat < n := by omega
theorem le_toNat {z : Int} {n : Nat} (h : 0 ≤ z ∧ z ≤ (n : Int)) : z.toNat ≤ n := by omega
theorem take_len {α : Type} {l : List α} {z : Int} (h : 0 ≤ z ∧ z ≤ (l.length : Int)) : z.toNat = (l.take z.toNat).length := by rw [List.length_take]; omega
theorem St.kprefix {α : Type} (K : Kind α) (m : Nat) {B : Nat} {w0 w : World} {l0 : List Nat} {R : List Asn} {a : Option Addr} {c : Nat} {l : List α} (hs : St B w0 l0 w (K.row a c l :: R)) : St B w0 l0 w (K.row a c (l.take m) :: R) := by
  refine St.conv hs ?_
  rintro f _ ⟨⟨h1, h2⟩, rfl⟩
  have hlen : (K.cells (l.take m)).length = (l.take m).length * K.size := K.length _
  have hle : (l.take m).length ≤ l.length := by rw [List.length_take]; omega
  rcases h2 with ⟨hv, h0⟩ | ⟨g, cap, cur, hv, hB, hg, hnc, hcm, hcs, htake⟩
  · have : l = [] := List.eq_nil_of_length_eq_zero h0
    subst this
    simp only [Value.slice.injEq] at hv
    obtain ⟨rfl, _, rfl⟩ := hv
    refine ⟨⟨hlen, .inl ⟨by simp, by simp⟩⟩, rfl⟩
  · cases hv
    refine ⟨⟨hlen, .inr ⟨g, c, cur, rfl, hB, hg, by omega, hcm, hcs, ?_⟩⟩, rfl⟩
    have e : K.cells l = K.cells (l.take m) ++ K.cells (l.drop m) := by rw [← K.cells_append, List.take_append_drop]
    have h3 : (cur.toList.take (l.length * K.size)).take ((l.take m).length * K.size) = K.cells (l.take m) := by
      rw [htake, e, ← hlen, List.take_left]
    rw [← h3, List.take_take, Nat.min_eq_left (Nat.mul_le_mul_right _ hle)]
theorem some_inj {α : Type} {a b : α} (h : some a = some b) : a = b := Option.some.inj h
/-- the element at a place. -/
abbrev elem {α : Type} (l : List α) (z : Int) (d : α) : α := l.getD z.toNat d
end Go.Proofs.YthimamnblklkbaaDoor
