/- ClassOpens: its plain law. -/
import Derived.Test.YthimamnblklkbaaDoorPCe
import Derived.Test.YthimamnblklkbaaDoorGN
import Derived.Test.YthimamnblklkbaaDoorGM
import Derived.Test.YthimamnblklkbaaDoorALcOp
namespace Go.Proofs.YthimamnblklkbaaDoor
open Go Go.RowKit
set_option linter.unusedVariables false
set_option linter.unusedSimpArgs false

variable {img : List Int} {l : List (Int × Int)}
/-- the last word that a list says of a place. -/
def said (k : Int) : List (Int × Int) → Int → Int
  | [], d => d
  | p :: ps, d => said k ps (if k = p.1 then p.2 else d)
theorem said_out {k : Int} : ∀ {ps : List (Int × Int)} {d : Int}, (∀ p ∈ ps, ¬ k = p.1) → said k ps d = d
  | [], _, _ => rfl
  | p :: ps, d, h => by
    unfold said
    rw [if_neg (h p (by simp))]
    exact said_out fun q hq => h q (by simp [hq])
theorem vwrite_in (hv : VJ img l) {a x : Int} (ha : 0 ≤ a ∧ a < (img.length : Int)) (hx : U64 x) (hl : l.length < 96) :
    ∃ m, vwrite img l a x = (0, m) ∧ VJ img m ∧ m.length ≤ l.length + 1 ∧ ∀ k, vget img m k = if k = a then x else vget img l k := by
  unfold vwrite
  rw [if_neg (by omega)]
  by_cases h : vget img l a = x
  · rw [if_pos h]
    refine ⟨l, rfl, hv, by omega, fun k => ?_⟩
    by_cases hk : k = a
    · rw [if_pos hk, hk, h]
    · rw [if_neg hk]
  · rw [if_neg h, vput_in ha hl]
    have hlen := vput_len img l a x
    rw [vput_in ha hl] at hlen
    exact ⟨_, rfl, ⟨hv.1.put ha hx, hv.2.put ha (.inr hl)⟩, hlen, fun k => vget_vset ha⟩
theorem vsets_in : ∀ (xs : List (Int × Int)) (l : List (Int × Int)), VJ img l → (∀ p ∈ xs, (0 ≤ p.1 ∧ p.1 < (img.length : Int)) ∧ U64 p.2) → l.length + xs.length ≤ 96 →
    ∃ m, vsets img l xs = (0, m) ∧ VJ img m ∧ m.length ≤ l.length + xs.length ∧ ∀ k, vget img m k = said k xs (vget img l k)
  | [], l, hv, _, _ => ⟨l, rfl, hv, by simp, fun k => rfl⟩
  | x :: xs, l, hv, hx, hl => by
    simp only [List.length_cons] at hl
    obtain ⟨m, e, hm, hlen, hg⟩ := vwrite_in hv (hx x (by simp)).1 (hx x (by simp)).2 (by omega)
    obtain ⟨m2, e2, hm2, hlen2, hg2⟩ := vsets_in xs m hm (fun p hp => hx p (by simp [hp])) (by omega)
    refine ⟨m2, ?_, hm2, by simp only [List.length_cons]; omega, fun k => ?_⟩
    · rw [vsets_cons, e]
      exact e2
    · rw [hg2, hg]; rfl
theorem putF_in (hv : VJ img l) {i : Int} {o : Bool} {g k : Int} (h0 : thereF img i 0 = 0) (hg : U64 g) (hk : U64 k) (hl : l.length + 3 ≤ 96) :
    ∃ m, putF img l i o g k = (0, m) ∧ VJ img m ∧ m.length ≤ l.length + 3 ∧ ∀ j, vget img m j = said j [(sessAt i, if o = true then 1 else 0), (sessAt i + 1, g), (sessAt i + 2, k)] (vget img l j) := by
  have ht := thereF_zero h0
  unfold putF
  rw [if_pos h0]
  refine vsets_in _ l hv ?_ (by simpa using hl)
  intro p hp
  simp only [List.mem_cons, List.not_mem_nil, or_false] at hp
  rcases hp with rfl | rfl | rfl
  · refine ⟨by simp only; omega, ?_⟩; simp only; unfold U64; split <;> omega
  · exact ⟨by simp only; omega, hg⟩
  · exact ⟨by simp only; omega, hk⟩
theorem wipeL_in {i : Int} (hi : 0 ≤ i ∧ i < 4) : ∀ p ∈ wipeL i, (16 + 64 * i ≤ p.1 ∧ p.1 < 72 + 64 * i) ∧ p.2 = 0 := by
  intro p hp
  have a : ∀ k : Int, 0 ≤ k ∧ k < 4 → slotAt i k = 16 + 64 * i + 12 * k := by intro k hk; unfold slotAt; rw [if_pos (by omega)]
  have b : ∀ k : Int, 0 ≤ k ∧ k < 4 → descAt i k = 64 + 64 * i + 2 * k := by intro k hk; unfold descAt; rw [if_pos (by omega)]
  have a0 := a 0 (by omega)
  have a1 := a 1 (by omega)
  have a2 := a 2 (by omega)
  have a3 := a 3 (by omega)
  have b0 := b 0 (by omega)
  have b1 := b 1 (by omega)
  have b2 := b 2 (by omega)
  have b3 := b 3 (by omega)
  unfold wipeL at hp
  simp only [List.mem_cons, List.not_mem_nil, or_false] at hp
  rcases hp with rfl | rfl | rfl | rfl | rfl | rfl | rfl | rfl | rfl | rfl | rfl | rfl <;> exact ⟨by simp only; omega, rfl⟩
theorem said_zero {k : Int} : ∀ {ps : List (Int × Int)} {d : Int}, (∀ p ∈ ps, p.2 = 0) → said k ps d = d ∨ said k ps d = 0
  | [], _, _ => .inl rfl
  | p :: ps, d, h => by
    unfold said
    split
    · rw [h p (by simp)]
      rcases said_zero (k := k) (ps := ps) (d := 0) (fun q hq => h q (by simp [hq])) with e | e <;> exact .inr e
    · exact said_zero fun q hq => h q (by simp [hq])
theorem wipeF_in (hv : VJ img l) {i : Int} (h0 : thereF img i 0 = 0) (hl : l.length + 12 ≤ 96) :
    ∃ m, wipeF img l i = (0, m) ∧ VJ img m ∧ m.length ≤ l.length + 12 ∧ vget img m (slotAt i 1) = 0 ∧ (∀ j, ¬ (16 + 64 * i ≤ j ∧ j < 72 + 64 * i) → vget img m j = vget img l j) := by
  have ht := thereF_zero h0
  have hw := wipeL_in (i := i) (by omega)
  unfold wipeF
  rw [if_pos h0]
  obtain ⟨m, e, hm, hlen, hg⟩ := vsets_in (wipeL i) l hv (fun p hp => ⟨by have := hw p hp; omega, by rw [(hw p hp).2]; exact u64_zero⟩) (by simpa [wipeL] using hl)
  refine ⟨m, e, hm, by simpa [wipeL] using hlen, ?_, fun j hj => ?_⟩
  · rw [hg]
    have e1 : wipeL i = [(slotAt i 0, 0), (slotAt i 1, 0)] ++ (wipeL i).drop 2 := rfl
    have hz : ∀ (ps qs : List (Int × Int)) (k d : Int), said k (ps ++ qs) d = said k qs (said k ps d) := by
      intro ps
      induction ps with
      | nil => intro qs k d; rfl
      | cons p ps ih => intro qs k d; exact ih qs k _
    rw [e1, hz]
    have e2 : said (slotAt i 1) [(slotAt i 0, 0), (slotAt i 1, 0)] (vget img l (slotAt i 1)) = 0 := by
      unfold said said said
      rw [if_pos rfl]
    rw [e2]
    rcases said_zero (k := slotAt i 1) (ps := (wipeL i).drop 2) (d := 0) (fun p hp => (hw p (List.mem_of_mem_drop hp)).2) with e | e <;> exact e
  · rw [hg]
    exact said_out fun p hp => by have := hw p hp; omega

/-- a session's words and all others, behind what turned some of them. -/
def Frame (img : List Int) (m : List (Int × Int)) (i : Int) : Prop := ∀ j, ¬ (8 + 64 * i ≤ j ∧ j < 72 + 64 * i) → vget img m j = vget img [] j
theorem ropen_in (hv : VJ img []) {i g n : Int} {o : Bool} (h0 : thereF img i 0 = 0) (h1 : vget img [] (sessAt i) = if o = true then 1 else 0) (h2 : vget img [] (sessAt i + 1) = n) (hn : 0 ≤ n ∧ n ≤ 6) (hg : 1 ≤ g ∧ g ≤ 6) :
    (o = true ∧ g = n → ropen_M img [] i g = some (1, 0, [])) ∧ (¬ (o = true ∧ g = n) ∧ g ≤ n → ropen_M img [] i g = some (2, 0, [])) ∧ (g > n ∧ (o = true ∨ ¬ g = n + 1) → ropen_M img [] i g = some (3, 0, [])) ∧
    (o = false ∧ g = n + 1 → ∃ m, ropen_M img [] i g = some (0, 0, m) ∧ VJ img m ∧ Frame img m i ∧ vget img m (sessAt i) = 1 ∧ vget img m (sessAt i + 1) = g ∧ vget img m (sessAt i + 2) = 0 ∧ vget img m (slotAt i 1) = 0) := by
  have ht := thereF_zero h0
  have hG := getF_in h0 h1
  rw [h2] at hG
  have hR : ropen_M img [] i g = if o = true then (if g = n then some (1, 0, []) else ropen_J1 img [] i g (o, n, vget img [] (sessAt i + 2), 0)) else ropen_J1 img [] i g (o, n, vget img [] (sessAt i + 2), 0) := by
    unfold ropen_M
    rw [if_neg (by omega), if_neg (by omega), rget10_eq, hG]
    simp only [Option.bind, if_true]
  have hJ : ropen_J1 img [] i g (o, n, vget img [] (sessAt i + 2), 0) = if g ≤ n then some (2, 0, []) else if o = true then some (3, 0, []) else if g = n + 1 then (if (putF img [] i true g 0).1 = 0 then some (0, (wipeF img (putF img [] i true g 0).2 i).1, (wipeF img (putF img [] i true g 0).2 i).2) else some (0, (putF img [] i true g 0).1, (putF img [] i true g 0).2)) else some (3, 0, []) := by
    unfold ropen_J1
    simp only [rput10_eq, rwipe10_eq, Option.bind]
    by_cases c : g ≤ n
    · rw [if_pos c, if_pos c]
    · rw [if_neg c, if_neg c]
      by_cases c3 : o = true
      · rw [if_pos c3, if_pos c3]
      · rw [if_neg c3, if_neg c3]
        by_cases c2 : g = n + 1
        · rw [if_pos c2, if_pos (by omega)]
        · rw [if_neg c2, if_neg (by omega)]
  rw [hR, hJ]
  refine ⟨?_, ?_, ?_, ?_⟩
  · rintro ⟨a, b⟩
    rw [if_pos a, if_pos b]
  · rintro ⟨a, b⟩
    by_cases c : o = true
    · rw [if_pos c, if_neg (fun h => a ⟨c, h⟩), if_pos b]
    · rw [if_neg c, if_pos b]
  · rintro ⟨a, b⟩
    by_cases c : o = true
    · rw [if_pos c, if_neg (by omega), if_neg (by omega), if_pos c]
    · rw [if_neg c, if_neg (by omega), if_neg c, if_neg (by rcases b with b | b; exact absurd b c; exact b)]
  · rintro ⟨rfl, b⟩
    obtain ⟨m1, e1, v1, l1, g1⟩ := putF_in (o := true) (g := g) (k := 0) hv h0 (by unfold U64; omega) u64_zero (by simp)
    obtain ⟨m2, e2, v2, l2, z2, g2⟩ := wipeF_in v1 h0 (by simp only [List.length_nil] at l1; omega)
    refine ⟨m2, ?_, v2, ?_, ?_, ?_, ?_, z2⟩
    · rw [if_neg (by decide), if_neg (by omega), if_neg (by decide), if_pos b, e1]
      simp only [if_true, e2]
    · intro j hj
      rw [g2 j (by omega), g1]
      simp only [said]
      rw [if_neg (by omega), if_neg (by omega), if_neg (by omega)]
    · rw [g2 _ (by omega), g1]
      simp only [said, if_true]
      rw [if_neg (by omega), if_neg (by omega)]
    · rw [g2 _ (by omega), g1]
      simp only [said, if_true]
      rw [if_neg (by omega)]
    · rw [g2 _ (by omega), g1]
      simp only [said, if_true]
theorem rclose_in (hv : VJ img []) {i g n : Int} {o : Bool} (h0 : thereF img i 0 = 0) (h1 : vget img [] (sessAt i) = if o = true then 1 else 0) (h2 : vget img [] (sessAt i + 1) = n) (hn : 0 ≤ n ∧ n ≤ 6) (hg : 1 ≤ g ∧ g ≤ 6) :
    (g < n → rclose_M img [] i g = some (2, 0, [])) ∧ (g > n → rclose_M img [] i g = some (3, 0, [])) ∧ (g = n ∧ o = false → rclose_M img [] i g = some (1, 0, [])) ∧
    (g = n ∧ o = true → ∃ m, rclose_M img [] i g = some (0, 0, m) ∧ VJ img m ∧ Frame img m i ∧ vget img m (sessAt i) = 0 ∧ vget img m (sessAt i + 1) = n) := by
  have ht := thereF_zero h0
  have hG := getF_in h0 h1
  rw [h2] at hG
  have hR : rclose_M img [] i g = if g < n then some (2, 0, []) else if g > n then some (3, 0, []) else if o = true then some (0, (putF img [] i false n (vget img [] (sessAt i + 2))).1, (putF img [] i false n (vget img [] (sessAt i + 2))).2) else some (1, 0, []) := by
    unfold rclose_M
    rw [if_neg (by omega), if_neg (by omega), rget10_eq, hG]
    simp only [Option.bind, if_true, rput10_eq]
  rw [hR]
  refine ⟨fun a => by rw [if_pos a], fun a => by rw [if_neg (by omega), if_pos a], ?_, ?_⟩
  · rintro ⟨a, b⟩
    rw [if_neg (by omega), if_neg (by omega), b, if_neg (by decide)]
  · rintro ⟨a, b⟩
    obtain ⟨m1, e1, v1, l1, g1⟩ := putF_in (o := false) (g := n) (k := vget img [] (sessAt i + 2)) hv h0 (by unfold U64; omega) (hv.1 _) (by simp)
    refine ⟨m1, by rw [if_neg (by omega), if_neg (by omega), if_pos b, e1], v1, ?_, ?_, ?_⟩
    · intro j hj
      rw [g1]
      simp only [said]
      rw [if_neg (by omega), if_neg (by omega), if_neg (by omega)]
    · rw [g1]
      simp only [said, if_true]
      rw [if_neg (by omega), if_neg (by omega)]
      rfl
    · rw [g1]
      simp only [said, if_true]
      rw [if_neg (by omega)]
end Go.Proofs.YthimamnblklkbaaDoor
