/- Texts, one behind the other: PPa, A8k, Sz, A8l, F8o, A8m, A8n, A8s, A8w, P8w, K18, A9t, A9a, A9b, A9c, A9d, Zv. -/
import Derived.Test.YtmmclabkkigiaaaGreatQPP5
set_option linter.unusedVariables false
set_option linter.unusedSimpArgs false
namespace Go.Proofs.YtmmclabkkigiaaaGreat
open Go Go.RowKit
def go : List UInt8 → List UInt8 → List (List UInt8)
  | cur, [] => [cur]
  | cur, b :: t => if b = 47 then cur :: go [] t else go (cur ++ [b]) t
def bs (l : List UInt8) : ByteArray := ⟨l.toArray⟩
theorem bs_data (s : ByteArray) : bs s.data.toList = s := by
  unfold bs
  cases s
  simp
theorem data_len (s : ByteArray) : s.data.toList.length = s.size := by rw [Array.length_toList]; rfl
theorem data_extract (s : ByteArray) (a b : Nat) : (s.extract a b).data.toList = (s.data.toList.take b).drop a := by
  simp [ByteArray.data_extract, Array.toList_extract, List.extract_eq_take_drop, List.drop_take]
theorem extract_bs (s : ByteArray) (a b : Nat) : s.extract a b = bs ((s.data.toList.take b).drop a) := by
  rw [← data_extract, bs_data]
theorem go_idx : ∀ (l cur : List UInt8), go cur l = if Lib.indexByte l 47 ≥ 0 then (cur ++ l.take (Lib.indexByte l 47).toNat) :: go [] (l.drop (Lib.indexByte l 47 + 1).toNat) else [cur ++ l]
  | [], cur => by simp [go, Lib.indexByte]
  | b :: l, cur => by
    have ih := go_idx l (cur ++ [b])
    have hr := idx_lt l
    have hgo : go cur (b :: l) = if b = 47 then cur :: go [] l else go (cur ++ [b]) l := rfl
    by_cases hb : b = 47
    · have hi : Lib.indexByte (b :: l) 47 = 0 := by rw [hb]; rfl
      rw [hgo, if_pos hb, hi, if_pos (by decide)]
      simp
    · have hi : Lib.indexByte (b :: l) 47 = if Lib.indexByte l 47 = -1 then -1 else Lib.indexByte l 47 + 1 := by
        show (if (b == 47) = true then (0 : Int) else if (Lib.indexByte l 47 == -1) = true then -1 else Lib.indexByte l 47 + 1) = _
        rw [if_neg (by simpa using hb)]
        simp only [beq_iff_eq]
      rw [hgo, if_neg hb, ih, hi]
      by_cases h1 : Lib.indexByte l 47 = -1
      · rw [h1, if_neg (by decide), if_pos rfl, if_neg (by decide)]
        simp
      · rw [if_pos (by omega), if_neg h1, if_pos (by omega), show (Lib.indexByte l 47 + 1).toNat = (Lib.indexByte l 47).toNat + 1 by omega, show (Lib.indexByte l 47 + 1 + 1).toNat = (Lib.indexByte l 47).toNat + 1 + 1 by omega, List.take_succ_cons, List.drop_succ_cons]
        simp
theorem go_part (s : ByteArray) : go [] s.data.toList = (cut1 s).1.data.toList :: (if (cut1 s).2.2 = true then go [] (cut1 s).2.1.data.toList else []) := by
  have hr := idx47_range s
  rw [go_idx]
  unfold cut1
  have e : idx47 s = Lib.indexByte s.data.toList 47 := rfl
  rw [← e]
  by_cases h : idx47 s ≥ 0
  · rw [if_pos h, if_pos h]
    simp only [if_true]
    rw [data_extract, data_extract, List.take_of_length_le (i := s.size) (by rw [data_len]; exact Nat.le_refl _)]
    simp
  · rw [if_neg h, if_neg h]
    simp
def fin : List ByteArray → List (List UInt8) → List ByteArray × Int
  | q, [] => (q, 0)
  | q, x :: r => if mayB (bs x) = true then fin (q ++ [bs x]) r else ([], 13)
theorem split_go (tx : ByteArray) : ∀ (t k : Nat) (q : List ByteArray), k + t = nParts (tx.extract 1 tx.size) → q.length ≤ k → k + t ≤ 1000000 →
    rounds (fun k_ c_ s_ => psplit_R51 tx k_ c_ s_) (fun s_ => psplit_D51 s_) t k q = some (fin q (if moreB (tx.extract 1 tx.size) k = true then go [] (restB (tx.extract 1 tx.size) k).data.toList else []))
  | 0, k, q, hk, _, _ => by
    have := (parts_end (tx.extract 1 tx.size)).1
    rw [show k = nParts (tx.extract 1 tx.size) by omega, this, if_neg (by decide)]
    rfl
  | t + 1, k, q, hk, hq, hm => by
    have hmore : moreB (tx.extract 1 tx.size) k = true := nFrom_lt _ _ 0 k (Nat.zero_le _) (show k < nParts (tx.extract 1 tx.size) by omega)
    rw [if_pos hmore, go_part]
    show psplit_R51 tx k (rounds (fun k_ c_ s_ => psplit_R51 tx k_ c_ s_) (fun s_ => psplit_D51 s_) t (k + 1)) q = _
    obtain ⟨c, hc⟩ : ∃ c, c = rounds (fun k_ c_ s_ => psplit_R51 tx k_ c_ s_) (fun s_ => psplit_D51 s_) t (k + 1) := ⟨_, rfl⟩
    rw [← hc]
    unfold psplit_R51
    refine bind_of (emay_eq _) ?_
    unfold fin
    rw [bs_data]
    show (if mayB (partAt (tx.extract 1 tx.size) k) = true then _ else _) = some (if mayB (partAt (tx.extract 1 tx.size) k) = true then _ else _)
    by_cases h : mayB (partAt (tx.extract 1 tx.size) k) = true
    · rw [if_pos h, if_pos h]
      refine need_of (by omega) ?_
      rw [hc]
      exact split_go tx t (k + 1) _ (by omega) (by rw [List.length_append]; simp only [List.length_cons, List.length_nil]; omega) (by omega)
    · rw [if_neg h, if_neg h]
      rfl
def slashB (tx : ByteArray) : Bool := decide ((tx.data.toList.head?) = some 47)
theorem take_one {l : List UInt8} (h : 1 ≤ l.length) : l.take 1 = [47] ↔ l.head? = some 47 := by
  cases l with
  | nil => simp at h
  | cons b l => simp
theorem shas_eq (tx : ByteArray) : shas_M tx = some (slashB tx) := by
  unfold shas_M slhas_M slashB
  by_cases h : (tx.size : Int) ≥ 1
  · rw [if_pos h]
    refine bind_of (need_of (by omega) rfl) ?_
    congr 1
    have hl := data_len tx
    have ht := take_one (l := tx.data.toList) (by omega)
    have he : (tx.extract 0 1).data.toList = tx.data.toList.take 1 := by rw [data_extract, List.drop_zero]
    by_cases hh : tx.data.toList.head? = some 47
    · rw [decide_eq_true hh]
      refine beq_toList.2 ?_
      rw [← bs_data (tx.extract 0 1), he, ht.2 hh]
      rfl
    · rw [decide_eq_false hh]
      cases hq : ((tx.extract 0 1).toList == (ByteArray.mk #[47]).toList) with
      | false => rfl
      | true =>
        have := beq_toList.1 hq
        rw [this] at he
        exact absurd (ht.1 he.symm) hh
  · rw [if_neg h]
    refine bind_of rfl ?_
    have hl := data_len tx
    have : tx.data.toList = [] := List.eq_nil_of_length_eq_zero (by omega)
    rw [this]
    rfl
def spl (tx : ByteArray) : List ByteArray × Int :=
  if (tx.size : Int) > 200 ∨ slashB tx = false then ([], 13) else if tx = ByteArray.mk #[47] then ([], 0) else fin [] (go [] (tx.data.toList.drop 1))
theorem ext_one (tx : ByteArray) : (tx.extract 1 tx.size).data.toList = tx.data.toList.drop 1 := by
  rw [data_extract, List.take_of_length_le (by rw [data_len]; exact Nat.le_refl _)]
theorem psplit_eq (tx : ByteArray) : psplit_M tx = some (spl tx) := by
  unfold psplit_M spl
  by_cases h1 : (tx.size : Int) > 200
  · rw [if_pos h1, if_pos (.inl h1)]
    rfl
  rw [if_neg h1]
  refine bind_of (shas_eq tx) ?_
  cases hs : slashB tx with
  | false =>
    rw [if_pos (.inr rfl)]
    rfl
  | true =>
    rw [if_neg (by rintro (h | h); exact h1 h; cases h)]
    unfold psplit_J1
    simp only [Bool.not_true, Bool.false_eq_true, if_false]
    by_cases h2 : tx = ByteArray.mk #[47]
    · rw [if_pos h2, if_pos (beq_toList.2 h2)]
    · rw [if_neg h2, if_neg fun q => h2 (beq_toList.1 q)]
      have hsz : 1 ≤ tx.size := by
        have hl := data_len tx
        cases hd : tx.data.toList with
        | nil => unfold slashB at hs; rw [hd] at hs; simp at hs
        | cons b l => rw [hd] at hl; simp at hl; omega
      have hes0 : (tx.extract 1 tx.size).size = tx.size - 1 := by rw [ByteArray.size_extract]; omega
      have hes : (tx.extract 1 tx.size).size ≤ 1000000 := by omega
      have hp := parts_end (tx.extract 1 tx.size)
      refine need_of (by omega) (need_of hes ?_)
      have := split_go tx (nParts (tx.extract 1 tx.size)) 0 [] (by omega) (Nat.le_refl _) (by omega)
      rw [this]
      show some (fin [] (if true = true then go [] (tx.extract 1 tx.size).data.toList else [])) = _
      rw [if_pos rfl, ext_one]
theorem sbyte_at {s : ByteArray} {p : Int} (hp : 0 ≤ p ∧ p < (s.size : Int)) : ∃ b, s.data.toList[p.toNat]? = some b ∧ sbyte s p = (b.toNat : Int) := by
  have hk : p.toNat < s.data.toList.length := by rw [data_len]; omega
  refine ⟨s.data.toList[p.toNat], List.getElem?_eq_getElem hk, ?_⟩
  unfold sbyte
  have hk2 : p.toNat < s.size := by omega
  rw [getElem?_pos s p.toNat hk2, Option.getD_some]
  rfl
theorem rsplit_go {tx : ByteArray} (hs : tx.size ≤ 200) {r : List ByteArray × Int} (hr : fin [] (go [] (tx.data.toList.drop 1)) = r) (h1 : 1 ≤ tx.size) : iter (fun k_ s_ => rsplit_B0 tx k_ s_.1 s_.2.1 s_.2.2) FUEL ([], 1, 1) = some r := by
  refine iter_run (fun s : List ByteArray × Int × Int => (1 ≤ s.2.1 ∧ s.2.1 ≤ s.2.2) ∧ s.2.2 ≤ (tx.size : Int) + 1 ∧ (s.1.length : Int) ≤ s.2.2 ∧
      ((s.2.2 ≤ (tx.size : Int) ∧ fin s.1 (go ((tx.data.toList.take s.2.2.toNat).drop s.2.1.toNat) (tx.data.toList.drop s.2.2.toNat)) = r) ∨ (s.2.2 = (tx.size : Int) + 1 ∧ (s.1, 0) = r))) (fun s => ((tx.size : Int) + 1 - s.2.2).toNat) ?_ _ _
    ⟨by simp, by simp only; omega, by simp, .inl ⟨by simp only; omega, ?_⟩⟩ (fuel_lt (by simp only; omega))
  rotate_left
  · simp only [Int.toNat_one]
    rw [List.drop_of_length_le (by rw [List.length_take]; exact Nat.min_le_left _ _)]
    exact hr
  rintro k ⟨q, f, i⟩ ⟨h2, h3, h4, h5⟩ ih
  simp only at h2 h3 h4 h5 ih
  show rsplit_B0 tx k q f i = _
  have hl := data_len tx
  have J2 : i ≤ (tx.size : Int) → ∀ rest : List (List UInt8), fin q (((tx.data.toList.take i.toNat).drop f.toNat) :: rest) = r → (∀ q', fin q' rest = r → (q'.length : Int) ≤ i + 1 → k (q', i + 1, i + 1) = some r) → rsplit_J2 tx k q f i = some r := by
    intro hi rest hf hk
    unfold rsplit_J2
    refine need_of (by omega) (bind_of (rmay15_eqP _) ?_)
    unfold fin at hf
    rw [extract_bs]
    by_cases hm : mayB (bs ((tx.data.toList.take i.toNat).drop f.toNat)) = true
    · rw [if_pos hm] at hf ⊢
      exact need_of (by omega) (need_of (by omega) (need_of (by omega) (need_of (by omega) (hk _ hf (by rw [List.length_append]; simp only [List.length_cons, List.length_nil]; omega)))))
    · rw [if_neg hm] at hf ⊢
      rw [← hf]
  unfold rsplit_B0
  rcases h5 with ⟨hi, hf⟩ | ⟨hi, hf⟩
  · rw [if_pos hi]
    by_cases hlt : i < (tx.size : Int)
    · rw [if_pos hlt]
      refine need_of (by omega) ?_
      obtain ⟨b, hb, eb⟩ := sbyte_at (s := tx) (p := i) (by omega)
      have hil : i.toNat < tx.data.toList.length := by omega
      have hbb : tx.data.toList[i.toNat] = b := by rw [List.getElem?_eq_getElem hil] at hb; exact some_inj hb
      rw [List.drop_eq_getElem_cons hil, hbb] at hf
      unfold go at hf
      rw [eb]
      by_cases h47 : b = 47
      · rw [if_pos h47] at hf
        rw [if_pos (by rw [h47]; rfl)]
        refine J2 hi _ hf fun q' hq' hl' => ih _ ⟨by simp only; omega, by simp only; omega, by simp only; omega, .inl ⟨by simp only; omega, ?_⟩⟩ (by simp only; omega)
        simp only
        rw [show (i + 1).toNat = i.toNat + 1 by omega, List.drop_of_length_le (l := tx.data.toList.take (i.toNat + 1)) (by rw [List.length_take]; exact Nat.min_le_left _ _)]
        exact hq'
      · rw [if_neg h47] at hf
        have hne : ¬ ((b.toNat : Int) = 47) := fun e => h47 (UInt8.toNat_inj.1 (by have : (47 : UInt8).toNat = 47 := rfl; omega))
        rw [if_neg hne]
        refine need_of (by omega) (ih _ ⟨by simp only; omega, by simp only; omega, by simp only; omega, .inl ⟨by simp only; omega, ?_⟩⟩ (by simp only; omega))
        simp only
        rw [show (i + 1).toNat = i.toNat + 1 by omega, List.take_add_one, hb]
        simp only [Option.toList_some]
        rw [List.drop_append_of_le_length (by simp only [List.length_take]; omega)]
        exact hf
    · rw [if_neg hlt]
      have hie : i.toNat = tx.data.toList.length := by omega
      rw [List.drop_of_length_le (l := tx.data.toList) (i := i.toNat) (by omega)] at hf
      unfold go at hf
      refine J2 hi [] hf fun q' hq' hl' => ih _ ⟨by simp only; omega, by simp only; omega, by simp only; omega, .inr ⟨by simp only; omega, ?_⟩⟩ (by simp only; omega)
      unfold fin at hq'
      exact hq'
  · rw [if_neg (by omega), hf]
theorem rsplit_eq (tx : ByteArray) : rsplit_M tx = some (spl tx) := by
  unfold rsplit_M spl
  have hl := data_len tx
  by_cases h0 : (tx.size : Int) < 1
  · rw [if_pos h0]
    have : tx.data.toList = [] := List.eq_nil_of_length_eq_zero (by omega)
    rw [if_pos (.inr (by unfold slashB; rw [this]; rfl))]
  rw [if_neg h0]
  by_cases h1 : (tx.size : Int) > 200
  · rw [if_pos h1, if_pos (.inl h1)]
  rw [if_neg h1]
  refine need_of (by omega) ?_
  obtain ⟨b, hb, eb⟩ := sbyte_at (s := tx) (p := 0) (by omega)
  have hh : tx.data.toList.head? = some b := by rw [← hb]; cases tx.data.toList <;> rfl
  rw [eb]
  by_cases h47 : b = 47
  · have hn : ¬ ((tx.size : Int) > 200 ∨ slashB tx = false) := by
      rintro (q | q)
      · exact h1 q
      · unfold slashB at q; rw [hh, h47] at q; simp at q
    have hb47 : (b.toNat : Int) = 47 := by rw [h47]; rfl
    rw [if_pos hb47, if_neg hn]
    by_cases h2 : tx = ByteArray.mk #[47]
    · rw [if_pos h2, if_pos (beq_toList.2 h2)]
    · rw [if_neg h2, if_neg fun q => h2 (beq_toList.1 q)]
      exact rsplit_go (by omega) rfl (by omega)
  · have hne : ¬ ((b.toNat : Int) = 47) := fun e => h47 (UInt8.toNat_inj.1 (by have : (47 : UInt8).toNat = 47 := rfl; omega))
    rw [if_neg hne, if_pos (.inr (by unfold slashB; rw [hh]; simp [h47]))]
end Go.Proofs.YtmmclabkkigiaaaGreat

set_option maxRecDepth 20000
set_option maxHeartbeats 4000000
namespace Go.Proofs.YtmmclabkkigiaaaGreat
open Go Go.RowKit
def pstep_M (img : List Int) (l : List (Int × Int)) (gw : Int) (gi : Int) (gb : Int) (n_ : Int) (tx_ : ByteArray) : Option (Int × Int) :=
 (eFind_M img l gw gi gb n_ tx_).bind fun r6 =>
some (r6.2.1, r6.2.2.2)
theorem pstep_walk {img : List Int} {l : List (Int × Int)} {gw : Int} {gi : Int} {gb : Int} {n_ : Int} {tx_ : ByteArray} {vb : Nat} {r : Int × Int} (B : Nat) (w : World) (hm : pstep_M img l gw gi gb n_ tx_ = some r) : Spec Tryz.prog 30 #[(.agg #[(zp vb), (zi gw), (zi gi), (zi gb)]), (zi n_), (.string tx_)] B w [viewA (ptr vb) img l] (fun v H' => v = (.tuple #[(zi r.1), (zi r.2)]) ∧ H' = [viewA (ptr vb) img l]) := by
 refine spec_W Tryz.func30 rfl fun l0 hs => ?_
 unfold pstep_M at hm
 refine W.sr fun K1 hK1 => ?_
 refine zN [(zp vb), (zi gw), (zi gi), (zi gb)] 89 hs fun b4 w2 hs3 => ?_
 refine zE 2 (hK1 _ _ ?_)
 refine W.sr fun K5 hK5 => ?_
 refine zR 1 ?_
 refine zL ⟨b4, 0, none⟩ (zp vb) (hs3.cellAt 0 rfl rfl) ?_
 refine zR 1 ?_
 refine zG ⟨b4, 1, none⟩ [(zi gw), (zi gi), (zi gb)] (cells_sub (hs3.heapAt 0 rfl) rfl) ?_
 refine zR 2 ?_
 obtain ⟨r6, h7, hm⟩ := bind_some hm
 have hs8 := St.f1 hs3
 refine zC11 hs8 (eFind_walk (vb := vb) (gw := gw) (gi := gi) (gb := gb) (n_ := n_) (tx_ := tx_) (img := img) (l := l) (hm := h7) B _) fun w9 hs11 => ?_
 refine zR 4 ?_
 refine zN [(.string ByteArray.empty), (zi 0)] 59 hs11 fun b14 w12 hs13 => ?_
 refine zT 0 [(.string r6.1), (zi r6.2.1)] [(.string r6.1), (zi r6.2.1)] hs13 fun w15 hs17 => ?_
 refine zE 2 (hK5 _ _ ?_)
 refine W.sr fun K18 hK18 => ?_
 refine zR 1 ?_
 refine zL ⟨b14, 1, none⟩ (zi r6.2.1) (hs17.cellAt 0 rfl rfl) ?_
 refine zE 3 (hK18 _ _ ?_)
 refine W.ret ?_
 obtain rfl := some_inj hm
 have hs19 := St.f1 hs17
 have hs20 := St.tk1 hs19
 refine ret_of (.tuple #[(zi r6.2.1), (zi r6.2.2.2)]) (by kernel_rfl) ⟨_, ⟨rfl, rfl⟩, hs20⟩
end Go.Proofs.YtmmclabkkigiaaaGreat

namespace Go.Proofs.YtmmclabkkigiaaaGreat
open Go Go.RowKit
section
variable {B : Nat} {w : World} {l : List Nat}
theorem row_at {α : Type} {K : Kind α} {a : Option Addr} {c : Nat} {xs : List α} (h : (K.row a c xs).P B w l) : CellsAt a (K.cells xs) w := rowA_cells h
end
section
variable {M : Bool} {P : Program} {ops : Array Oper} {i : Nat} {s : Fs} {w : World} {K : Fs → World → Prop}
end
end Go.Proofs.YtmmclabkkigiaaaGreat

set_option maxRecDepth 20000
set_option maxHeartbeats 4000000
namespace Go.Proofs.YtmmclabkkigiaaaGreat
open Go Go.RowKit
def pwalk_B0 (img : List Int) (l : List (Int × Int)) (gw : Int) (gi : Int) (gb : Int) (xs : List ByteArray) (k7 : (Int × Int) → Option (Int × Int)) (p5 : Int) (p6 : Int) : Option (Int × Int) :=
 if p6 < (xs.length : Int) then (need (0 ≤ p6 ∧ p6 < (xs.length : Int)) <|
(pstep_M img l gw gi gb p5 (xs.getD p6.toNat ByteArray.empty)).bind fun r19 =>
if r19.2 = 0 then (need (-9223372036854775808 ≤ (p6 + 1) ∧ (p6 + 1) ≤ 9223372036854775807) <|
k7 (r19.1, (p6 + 1))) else (some (0, r19.2))) else (some (p5, 0))
def pwalk_M (img : List Int) (l : List (Int × Int)) (gw : Int) (gi : Int) (gb : Int) (xs : List ByteArray) : Option (Int × Int) :=
 iter (fun k_ s_ => pwalk_B0 img l gw gi gb xs k_ s_.1 s_.2) FUEL (1, 0)
theorem pwalk_walk {img : List Int} {l : List (Int × Int)} {gw : Int} {gi : Int} {gb : Int} {xs : List ByteArray} {vb : Nat} {A_ : Asn} {xa : Option Addr} {xc : Nat} {r : Int × Int} (B : Nat) (w : World) (hA : ∀ {B_ : Nat} {w_ : World} {l_ : List Nat}, A_.P B_ w_ l_ → CellsAt xa (kStr.cells xs) w_) (hm : pwalk_M img l gw gi gb xs = some r) : Spec Tryz.prog 29 #[(.slice xa xs.length xc), (.func (.func 30) #[(.agg #[(zp vb), (zi gw), (zi gi), (zi gb)])] #[])] B w [viewA (ptr vb) img l, A_] (fun v H' => v = (.tuple #[(zi r.1), (zi r.2)]) ∧ H' = [viewA (ptr vb) img l, A_]) := by
 refine spec_W Tryz.func29 rfl fun l0 hs => ?_
 unfold pwalk_M at hm
 refine W.sr fun K1 hK1 => ?_
 refine zE 2 (hK1 _ _ ?_)
 refine W.sr fun K2 hK2 => ?_
 refine zE 1 (hK2 _ _ ?_)
 refine W.seq fun K3 hK3 => ?_
 refine W.sr fun K4 hK4 => ?_
 refine zE 3 (hK4 _ _ ?_)
 refine W.block ?_
 refine W.loop_iter (G := Int × Int) (σ := Int × Int) (fun | (p5, p6) => (p5, p6)) (fun | (p5, p6), s_, w_ => (∃ us, s_ = slots 30 [(1, (.func (.func 30) #[(.agg #[(zp vb), (zi gw), (zi gi), (zi gb)])] #[])), (6, (zi p5)), (11, (.slice xa xs.length xc)), (12, (zi (xs.length : Int))), (13, (zi p6))] us) ∧ St B w l0 w_ [viewA (ptr vb) img l, A_]) (1, 0) ⟨slots_intro _ (by kernel_rfl), hs⟩ hm ?_
 rintro k7 ih8 ⟨p5, p6⟩ _ w9 ⟨⟨us, rfl⟩, hs10⟩ hm
 replace hm : pwalk_B0 img l gw gi gb xs k7 p5 p6 = some r := hm
 unfold pwalk_B0 at hm
 refine W.sr fun K11 hK11 => ?_
 refine zE 1 (hK11 _ _ ?_)
 refine W.seq fun K12 hK12 => ?_
 refine W.cond (decide (p6 < (xs.length : Int))) (by kernel_rfl) (fun h13 => ?_) (fun h13 => ?_)
 ·
  obtain ⟨h13p, hm⟩ := iY hm h13
  refine W.skip ?_
  refine hK12 _ _ ?_
  refine W.seq fun K14 hK14 => ?_
  refine W.block ?_
  refine W.sr fun K15 hK15 => ?_
  obtain ⟨h17, hm⟩ := need_some hm
  have hk16 := lt_toNat h17
  refine ops_R (runs_index (a := xa) (n := xs.length) (z := p6) (size := 1) p6.toNat (nat_of h17.1) hk16 (kStr.addr (hs10.entAt 1 rfl hA) hk16) (by kernel_rfl)) ?_
  refine zL ((adr xa (p6.toNat * 1)).add 0) (.string (xs.getD p6.toNat ByteArray.empty)) (kStr.at (hs10.entAt 1 rfl hA) hk16 ByteArray.empty 0 rfl) ?_
  refine zE 1 (hK15 _ _ ?_)
  refine W.sr fun K18 hK18 => ?_
  refine zR 3 ?_
  obtain ⟨r19, h20, hm⟩ := bind_some hm
  refine zC11 hs10 (pstep_walk (vb := vb) (img := img) (l := l) (gw := gw) (gi := gi) (gb := gb) (n_ := p5) (tx_ := (xs.getD p6.toNat ByteArray.empty)) (hm := h20) B _) fun w21 hs23 => ?_
  refine zE 5 (hK18 _ _ ?_)
  refine W.seq fun K24 hK24 => ?_
  refine W.sr fun K25 hK25 => ?_
  refine zE 2 (hK25 _ _ ?_)
  refine W.cond (!decide (r19.2 = 0)) (by kernel_rfl) (fun h26 => ?_) (fun h26 => ?_)
  rotate_left
  ·
   have h26p : r19.2 = 0 := of_decide_eq_true (bnot_false h26)
   replace hm := ite_yes hm h26p
   refine W.skip ?_
   refine hK24 _ _ ?_
   refine W.region ?_
   refine zE 2 ?_
   refine normal_block ?_
   refine hK14 _ _ ?_
   refine W.region ?_
   obtain ⟨h27, hm⟩ := need_some hm
   refine zI _ (wrap_i64 h27.1 h27.2) ?_
   refine zE 1 ?_
   refine loopAt_next ?_
   exact ih8 (r19.1, (p6 + 1)) _ _ ⟨slots_intro _ (by kernel_rfl), hs23⟩ hm
  have h26p : ¬ (r19.2 = 0) := of_decide_eq_false (bnot_true h26)
  replace hm := ite_no hm h26p
  refine W.sr fun K28 hK28 => ?_
  refine zE 3 (hK28 _ _ ?_)
  refine W.ret (ret_seq (ret_block (ret_seq (ret_seq (ret_block (ret_seq ?_))))))
  obtain rfl := some_inj hm
  refine ret_of (.tuple #[(zi 0), (zi r19.2)]) (by kernel_rfl) ⟨_, ⟨rfl, rfl⟩, hs23⟩
 obtain ⟨h13p, hm⟩ := iN hm h13
 refine W.exit (exit_seq (exit_seq (exit_here ?_)))
 refine hK3 _ _ ?_
 refine W.sr fun K29 hK29 => ?_
 refine zE 3 (hK29 _ _ ?_)
 refine W.ret ?_
 obtain rfl := some_inj hm
 refine ret_of (.tuple #[(zi p5), (zi 0)]) (by kernel_rfl) ⟨_, ⟨rfl, rfl⟩, hs10⟩
end Go.Proofs.YtmmclabkkigiaaaGreat

set_option maxRecDepth 20000
set_option maxHeartbeats 1000000
namespace Go.Proofs.YtmmclabkkigiaaaGreat
open Go Go.RowKit
theorem popen_ok {vb : Nat} {img : List Int} {l : List (Int × Int)} {gw gi gb : Int} (B : Nat) (w : World) (hv : ViewAt (ptr vb) img l w) (hP : May gw gi gb ∧ wordsOf gw gi gb ≤ (img.length : Int)) : Spec Tryz.prog 28 #[(zp vb), (.agg #[(zi gw), (zi gi), (zi gb)])] B w [] (fun v H' => v = (.tuple #[(.agg #[(zp vb), (zi gw), (zi gi), (zi gb)]), (zi 0)]) ∧ H' = []) := by
 refine spec_Q Tryz.func28 rfl fun hs => ?_
 have hm : May gw gi gb := hP.1
 have hl := hP.2
 refine W.sr fun K1 hK1 => ?_
 refine zN [(zi gw), (zi gi), (zi gb)] 24 hs fun b4 w2 hs3 => ?_
 refine zN [(.pointer none), (zi 0), (zi 0), (zi 0)] 89 hs3 fun b7 w5 hs6 => ?_
 refine zE 1 (hK1 _ _ ?_)
 refine W.seq fun K8 hK8 => ?_
 refine W.block ?_
 refine W.sr fun K9 hK9 => ?_
 refine zE 3 (hK9 _ _ ?_)
 refine W.cond_false false (by kernel_rfl) rfl ?_
 refine W.sr fun K10 hK10 => ?_
 refine zG ⟨b4, 0, none⟩ [(zi gw), (zi gi), (zi gb)] (cells_sub (hs6.heapAt 1 rfl) rfl) ?_
 refine zC00 hs6 (may_spec (gw := gw) (gi := gi) (gb := gb) B _) fun w11 hs13 => ?_
 refine zE 2 (hK10 _ _ ?_)
 refine W.cond (!(decide (May gw gi gb))) (by kernel_rfl) (fun h14 => ?_) (fun h14 => ?_)
 ·
  have h14p : ¬ (May gw gi gb) := of_decide_eq_false (bnot_true h14)
  refine W.sr fun K15 hK15 => ?_
  refine zR 1 ?_
  refine zT 0 [(.pointer none), (zi 0), (zi 0), (zi 0)] [(.pointer none), (zi 0), (zi 0), (zi 0)] hs13 fun w16 hs18 => ?_
  refine zE 1 (hK15 _ _ ?_)
  refine W.ret (ret_block (ret_seq ?_))
  exfalso
  first | omega | exact absurd hP.1 (by assumption)
 have h14p : May gw gi gb := of_decide_eq_true (bnot_false h14)
 refine W.seq fun K19 hK19 => ?_
 have hs20 := hs13.drew
 refine W.regionD [(0, 0), (1, 1), (0, 0), (6, 4), (10, 10), (24, 16)] (fun w_ => St B w [] w_ [zb b7 89 [(.pointer none), (zi 0), (zi 0), (zi 0)], zb b4 24 [(zi gw), (zi gi), (zi gb)]]) (by kernel_rfl) hs20 ?_
 refine zA (zp vb) 0 hs20 ?_
 refine any_R 2 (by kernel_rfl) (fun _ hS_ => runs_loadAgg (ad := ⟨b4, 0, none⟩) (cs := [(zi gw), (zi gi), (zi gb)]) (by kernel_rfl) (cells_sub (hS_.heapAt 1 rfl) rfl)) hs20 ?_
 refine any_step 1 (by kernel_rfl) (by kernel_rfl) ?_
 refine zC00 hs20 (len_spec (hv := (viewAt_old hs20 hv)) B _) fun w21 hs23 => ?_
 refine ops_done (by kernel_rfl) ⟨hs23, ?_⟩
 refine any_step 3 (by kernel_rfl) (by kernel_rfl) ?_
 refine zC00 hs23 (lwords_spec (gw := gw) (gi := gi) (gb := gb) B _) fun w24 hs26 => ?_
 refine ops_done (by kernel_rfl) ⟨hs26, ?_⟩
 refine zA (.bool (decide ((img.length : Int) < (wordsOf gw gi gb)))) 4 hs26 ?_
 refine zA (.bool (decide ((img.length : Int) < (wordsOf gw gi gb)))) 5 hs26 ?_
 refine any_done (by kernel_rfl) ?_
 refine hK19 _ _ ?_
 refine W.cond (decide ((img.length : Int) < (wordsOf gw gi gb))) (by kernel_rfl) (fun h27 => ?_) (fun h27 => ?_)
 ·
  have h27p := of_decide_eq_true h27
  refine W.sr fun K28 hK28 => ?_
  refine zR 1 ?_
  refine zT 0 [(.pointer none), (zi 0), (zi 0), (zi 0)] [(.pointer none), (zi 0), (zi 0), (zi 0)] hs26 fun w29 hs31 => ?_
  refine zE 1 (hK28 _ _ ?_)
  refine W.ret (ret_block (ret_seq ?_))
  exfalso
  first | omega | exact absurd hP.1 (by assumption)
 have h27p := of_decide_eq_false h27
 refine W.skip ?_
 refine normal_block ?_
 refine hK8 _ _ ?_
 refine W.sr fun K32 hK32 => ?_
 refine zR 1 ?_
 refine zG ⟨b4, 0, none⟩ [(zi gw), (zi gi), (zi gb)] (cells_sub (hs26.heapAt 1 rfl) rfl) ?_
 refine zR 1 ?_
 refine zT 0 [(zp vb), (zi gw), (zi gi), (zi gb)] [(zp vb), (zi gw), (zi gi), (zi gb)] hs26 fun w33 hs35 => ?_
 refine zE 1 (hK32 _ _ ?_)
 refine W.ret ?_
 have hs36 := St.tk0 hs35
 refine ret_of (.tuple #[(.agg #[(zp vb), (zi gw), (zi gi), (zi gb)]), (zi 0)]) (resS_of (by kernel_rfl) (resD_two rfl (.agg (ad := ⟨b7, 0, none⟩) (cs := [(zp vb), (zi gw), (zi gi), (zi gb)]) (by kernel_rfl) (by kernel_rfl) (cells_sub (hs35.heapAt 0 rfl) rfl)) (.tmp (by kernel_rfl)))) ⟨_, ⟨rfl, rfl⟩, hs36⟩
theorem popen_err {vb : Nat} {img : List Int} {l : List (Int × Int)} {gw gi gb : Int} (B : Nat) (w : World) (hv : ViewAt (ptr vb) img l w) (hN : ¬ (May gw gi gb ∧ wordsOf gw gi gb ≤ (img.length : Int))) : Spec Tryz.prog 28 #[(zp vb), (.agg #[(zi gw), (zi gi), (zi gb)])] B w [] (fun v H' => v = .tuple #[(.agg #[(.pointer none), (zi 0), (zi 0), (zi 0)]), .int .i64 (if May gw gi gb then 8 else 1)] ∧ H' = []) := by
 refine spec_Q Tryz.func28 rfl fun hs => ?_
 refine W.sr fun K1 hK1 => ?_
 refine zN [(zi gw), (zi gi), (zi gb)] 24 hs fun b4 w2 hs3 => ?_
 refine zN [(.pointer none), (zi 0), (zi 0), (zi 0)] 89 hs3 fun b7 w5 hs6 => ?_
 refine zE 1 (hK1 _ _ ?_)
 refine W.seq fun K8 hK8 => ?_
 refine W.block ?_
 refine W.sr fun K9 hK9 => ?_
 refine zE 3 (hK9 _ _ ?_)
 refine W.cond_false false (by kernel_rfl) rfl ?_
 refine W.sr fun K10 hK10 => ?_
 refine zG ⟨b4, 0, none⟩ [(zi gw), (zi gi), (zi gb)] (cells_sub (hs6.heapAt 1 rfl) rfl) ?_
 refine zC00 hs6 (may_spec (gw := gw) (gi := gi) (gb := gb) B _) fun w11 hs13 => ?_
 refine zE 2 (hK10 _ _ ?_)
 refine W.cond (!(decide (May gw gi gb))) (by kernel_rfl) (fun h14 => ?_) (fun h14 => ?_)
 ·
  have h14p : ¬ (May gw gi gb) := of_decide_eq_false (bnot_true h14)
  refine W.sr fun K15 hK15 => ?_
  refine zR 1 ?_
  refine zT 0 [(.pointer none), (zi 0), (zi 0), (zi 0)] [(.pointer none), (zi 0), (zi 0), (zi 0)] hs13 fun w16 hs18 => ?_
  refine zE 1 (hK15 _ _ ?_)
  refine W.ret (ret_block (ret_seq ?_))
  have hs19 := St.tk0 hs18
  refine ret_of (.tuple #[(.agg #[(.pointer none), (zi 0), (zi 0), (zi 0)]), (zi 1)]) (resS_of (by kernel_rfl) (resD_two rfl (.agg (ad := ⟨b7, 0, none⟩) (cs := [(.pointer none), (zi 0), (zi 0), (zi 0)]) (by kernel_rfl) (by kernel_rfl) (cells_sub (hs18.heapAt 0 rfl) rfl)) (.tmp (by kernel_rfl)))) ⟨_, ⟨congrArg (fun z => Value.tuple #[(.agg #[(.pointer none), (zi 0), (zi 0), (zi 0)]), .int .i64 z]) (if_neg (by assumption)).symm, rfl⟩, hs19⟩
 have h14p : May gw gi gb := of_decide_eq_true (bnot_false h14)
 refine W.seq fun K20 hK20 => ?_
 have hs21 := hs13.drew
 refine W.regionD [(0, 0), (1, 1), (0, 0), (6, 4), (10, 10), (24, 16)] (fun w_ => St B w [] w_ [zb b7 89 [(.pointer none), (zi 0), (zi 0), (zi 0)], zb b4 24 [(zi gw), (zi gi), (zi gb)]]) (by kernel_rfl) hs21 ?_
 refine zA (zp vb) 0 hs21 ?_
 refine any_R 2 (by kernel_rfl) (fun _ hS_ => runs_loadAgg (ad := ⟨b4, 0, none⟩) (cs := [(zi gw), (zi gi), (zi gb)]) (by kernel_rfl) (cells_sub (hS_.heapAt 1 rfl) rfl)) hs21 ?_
 refine any_step 1 (by kernel_rfl) (by kernel_rfl) ?_
 refine zC00 hs21 (len_spec (hv := (viewAt_old hs21 hv)) B _) fun w22 hs24 => ?_
 refine ops_done (by kernel_rfl) ⟨hs24, ?_⟩
 refine any_step 3 (by kernel_rfl) (by kernel_rfl) ?_
 refine zC00 hs24 (lwords_spec (gw := gw) (gi := gi) (gb := gb) B _) fun w25 hs27 => ?_
 refine ops_done (by kernel_rfl) ⟨hs27, ?_⟩
 refine zA (.bool (decide ((img.length : Int) < (wordsOf gw gi gb)))) 4 hs27 ?_
 refine zA (.bool (decide ((img.length : Int) < (wordsOf gw gi gb)))) 5 hs27 ?_
 refine any_done (by kernel_rfl) ?_
 refine hK20 _ _ ?_
 refine W.cond (decide ((img.length : Int) < (wordsOf gw gi gb))) (by kernel_rfl) (fun h28 => ?_) (fun h28 => ?_)
 ·
  have h28p := of_decide_eq_true h28
  refine W.sr fun K29 hK29 => ?_
  refine zR 1 ?_
  refine zT 0 [(.pointer none), (zi 0), (zi 0), (zi 0)] [(.pointer none), (zi 0), (zi 0), (zi 0)] hs27 fun w30 hs32 => ?_
  refine zE 1 (hK29 _ _ ?_)
  refine W.ret (ret_block (ret_seq ?_))
  have hs33 := St.tk0 hs32
  refine ret_of (.tuple #[(.agg #[(.pointer none), (zi 0), (zi 0), (zi 0)]), (zi 8)]) (resS_of (by kernel_rfl) (resD_two rfl (.agg (ad := ⟨b7, 0, none⟩) (cs := [(.pointer none), (zi 0), (zi 0), (zi 0)]) (by kernel_rfl) (by kernel_rfl) (cells_sub (hs32.heapAt 0 rfl) rfl)) (.tmp (by kernel_rfl)))) ⟨_, ⟨congrArg (fun z => Value.tuple #[(.agg #[(.pointer none), (zi 0), (zi 0), (zi 0)]), .int .i64 z]) (if_pos (by assumption)).symm, rfl⟩, hs33⟩
 have h28p := of_decide_eq_false h28
 refine W.skip ?_
 refine normal_block ?_
 refine hK8 _ _ ?_
 refine W.sr fun K34 hK34 => ?_
 refine zR 1 ?_
 refine zG ⟨b4, 0, none⟩ [(zi gw), (zi gi), (zi gb)] (cells_sub (hs27.heapAt 1 rfl) rfl) ?_
 refine zR 1 ?_
 refine zT 0 [(zp vb), (zi gw), (zi gi), (zi gb)] [(zp vb), (zi gw), (zi gi), (zi gb)] hs27 fun w35 hs37 => ?_
 refine zE 1 (hK34 _ _ ?_)
 refine W.ret ?_
 exfalso
 first | omega | exact hN ⟨by assumption, by omega⟩
end Go.Proofs.YtmmclabkkigiaaaGreat

set_option maxRecDepth 20000
set_option maxHeartbeats 4000000
namespace Go.Proofs.YtmmclabkkigiaaaGreat
open Go Go.RowKit
def pWalk_M (img : List Int) (l : List (Int × Int)) (gw : Int) (gi : Int) (gb : Int) (tx_ : ByteArray) : Option (Int × Int) :=
 if May gw gi gb ∧ wordsOf gw gi gb ≤ (img.length : Int) then ((psplit_M tx_).bind fun r22 =>
if r22.2 = 0 then ((pwalk_M img l gw gi gb r22.1).bind fun r31 =>
some (r31.1, r31.2)) else (some (0, r22.2))) else ((some (if May gw gi gb then (8 : Int) else 1)).bind fun r50 =>
if r50 = 0 then (none) else (some (0, r50)))
theorem pWalk_walk {img : List Int} {l : List (Int × Int)} {gw : Int} {gi : Int} {gb : Int} {tx_ : ByteArray} {vb : Nat} {r : Int × Int} (B : Nat) (w : World) (hm : pWalk_M img l gw gi gb tx_ = some r) : Spec Tryz.prog 9 #[(zp vb), (.agg #[(zi gw), (zi gi), (zi gb)]), (.string tx_)] B w [viewA (ptr vb) img l] (fun v H' => v = (.tuple #[(zi r.1), (zi r.2)]) ∧ H' = [viewA (ptr vb) img l]) := by
 refine spec_W Tryz.func9 rfl fun l0 hs => ?_
 unfold pWalk_M at hm
 refine W.sr fun K1 hK1 => ?_
 refine zN [(zi gw), (zi gi), (zi gb)] 24 hs fun b4 w2 hs3 => ?_
 refine zE 2 (hK1 _ _ ?_)
 refine W.sr fun K6 hK6 => ?_
 refine zR 1 ?_
 refine zG ⟨b4, 0, none⟩ [(zi gw), (zi gi), (zi gb)] (cells_sub (hs3.heapAt 0 rfl) rfl) ?_
 rcases Bool.eq_false_or_eq_true (decide (May gw gi gb ∧ wordsOf gw gi gb ≤ (img.length : Int))) with h7 | h7
 ·
  obtain ⟨h7p, hm⟩ := iY hm h7
  refine zC00 hs3 (popen_ok (gw := gw) (gi := gi) (gb := gb) (hv := (hs3.entAt 1 rfl viewA_at)) (hP := h7p) B _) fun w8 hs10 => ?_
  refine zR 3 ?_
  refine zN [(.pointer none), (zi 0), (zi 0), (zi 0)] 89 hs10 fun b13 w11 hs12 => ?_
  refine zT 0 [(zp vb), (zi gw), (zi gi), (zi gb)] [(zp vb), (zi gw), (zi gi), (zi gb)] hs12 fun w14 hs16 => ?_
  refine zE 1 (hK6 _ _ ?_)
  refine W.seq fun K17 hK17 => ?_
  refine W.sr fun K18 hK18 => ?_
  refine zE 2 (hK18 _ _ ?_)
  refine W.cond_false false (by kernel_rfl) rfl ?_
  refine W.skip ?_
  refine hK17 _ _ ?_
  refine W.sr fun K19 hK19 => ?_
  refine zR 1 ?_
  obtain ⟨r22, h23, hm⟩ := bind_some hm
  refine ops_call0 hs16 (by kernel_rfl) (psplit_walk (tx_ := tx_) (hm := h23) B _) ?_
  rintro _ _ w24 ⟨a20, c21, rfl, rfl⟩ hs25
  have hs26 := St.ap1 hs25
  refine zE 5 (hK19 _ _ ?_)
  refine W.seq fun K27 hK27 => ?_
  refine W.sr fun K28 hK28 => ?_
  refine zE 2 (hK28 _ _ ?_)
  refine W.cond (!decide (r22.2 = 0)) (by kernel_rfl) (fun h29 => ?_) (fun h29 => ?_)
  rotate_left
  ·
   have h29p : r22.2 = 0 := of_decide_eq_true (bnot_false h29)
   replace hm := ite_yes hm h29p
   refine W.skip ?_
   refine hK27 _ _ ?_
   refine W.sr fun K30 hK30 => ?_
   refine zR 1 ?_
   refine zG ⟨b13, 0, none⟩ [(zp vb), (zi gw), (zi gi), (zi gb)] (cells_sub (hs26.heapAt 1 rfl) rfl) ?_
   refine zR 1 ?_
   obtain ⟨r31, h32, hm⟩ := bind_some hm
   have hs33 := St.f3 hs26
   refine zC22 hs33 (pwalk_walk (vb := vb) (xa := a20) (xc := c21) (A_ := kStr.row a20 c21 r22.1) (img := img) (l := l) (gw := gw) (gi := gi) (gb := gb) (xs := r22.1) (hA := fun h_ => (row_at h_)) (hm := h32) B _) fun w34 hs36 => ?_
   refine zE 4 (hK30 _ _ ?_)
   refine W.ret ?_
   obtain rfl := some_inj hm
   have hs37 := St.tk1 hs36
   refine ret_of (.tuple #[(zi r31.1), (zi r31.2)]) (by kernel_rfl) ⟨_, ⟨rfl, rfl⟩, hs37⟩
  have h29p : ¬ (r22.2 = 0) := of_decide_eq_false (bnot_true h29)
  replace hm := ite_no hm h29p
  refine W.sr fun K38 hK38 => ?_
  refine zE 3 (hK38 _ _ ?_)
  refine W.ret (ret_seq ?_)
  obtain rfl := some_inj hm
  have hs39 := St.f3 hs26
  have hs40 := St.tk1 hs39
  refine ret_of (.tuple #[(zi 0), (zi r22.2)]) (by kernel_rfl) ⟨_, ⟨rfl, rfl⟩, hs40⟩
 obtain ⟨h7p, hm⟩ := iN hm h7
 refine zC00 hs3 (popen_err (gw := gw) (gi := gi) (gb := gb) (hv := (hs3.entAt 1 rfl viewA_at)) (hN := h7p) B _) fun w41 hs43 => ?_
 refine zR 3 ?_
 refine zN [(.pointer none), (zi 0), (zi 0), (zi 0)] 89 hs43 fun b46 w44 hs45 => ?_
 refine zT 0 [(.pointer none), (zi 0), (zi 0), (zi 0)] [(.pointer none), (zi 0), (zi 0), (zi 0)] hs45 fun w47 hs49 => ?_
 refine zR 1 ?_
 obtain ⟨r50, h51, hm⟩ := bind_some hm
 replace h51 := some_inj h51
 refine ops_set 9 (v := .int .i64 r50) (Eq.trans (by kernel_rfl) (congrArg (Value.int .i64) h51)) ?_
 refine zD (hK6 _ _ ?_)
 refine W.seq fun K52 hK52 => ?_
 refine W.sr fun K53 hK53 => ?_
 refine zE 2 (hK53 _ _ ?_)
 refine W.cond (!decide (r50 = 0)) (by kernel_rfl) (fun h54 => ?_) (fun h54 => ?_)
 rotate_left
 ·
  have h54p : r50 = 0 := of_decide_eq_true (bnot_false h54)
  exact absurd h54p (fun e_ => (show ¬ ((if May gw gi gb then (8 : Int) else 1) = 0) by split <;> decide) (h51.trans e_))
 have h54p : ¬ (r50 = 0) := of_decide_eq_false (bnot_true h54)
 replace hm := ite_no hm h54p
 refine W.sr fun K55 hK55 => ?_
 refine zE 3 (hK55 _ _ ?_)
 refine W.ret (ret_seq ?_)
 obtain rfl := some_inj hm
 have hs56 := St.f2 hs49
 have hs57 := St.tk1 hs56
 refine ret_of (.tuple #[(zi 0), (zi r50)]) (by kernel_rfl) ⟨_, ⟨rfl, rfl⟩, hs57⟩
def pParent_J2 (r23 : List ByteArray × Int) (r36 : Int) (r42 : Int × Int) (p70 : Int) : Option (Int × ByteArray × Int) :=
 if p70 = 0 then (need (0 ≤ r36 ∧ r36 < (r23.1.length : Int)) <|
some (r42.1, (r23.1.getD r36.toNat ByteArray.empty), 0)) else (some (0, ByteArray.empty, p70))
def pParent_J1 (img : List Int) (l : List (Int × Int)) (gw : Int) (gi : Int) (gb : Int) (r23 : List ByteArray × Int) (p28 : Int) : Option (Int × ByteArray × Int) :=
 if p28 = 0 then (need (-9223372036854775808 ≤ ((r23.1.length : Int) - 1) ∧ ((r23.1.length : Int) - 1) ≤ 9223372036854775807) <|
(some ((r23.1.length : Int) - 1)).bind fun r36 =>
need (0 ≤ r36 ∧ r36 ≤ (r23.1.length : Int)) <|
(pwalk_M img l gw gi gb (r23.1.take r36.toNat)).bind fun r42 =>
if r42.2 = 0 then ((some (igetM img l gw gi gb r42.1)).bind fun r57 =>
if r57.2 = 0 then (if r57.1.k = 2 then (pParent_J2 r23 r36 r42 r57.2) else (pParent_J2 r23 r36 r42 10)) else (pParent_J2 r23 r36 r42 r57.2)) else (some (0, ByteArray.empty, r42.2))) else (some (0, ByteArray.empty, p28))
def pParent_M (img : List Int) (l : List (Int × Int)) (gw : Int) (gi : Int) (gb : Int) (tx_ : ByteArray) : Option (Int × ByteArray × Int) :=
 if May gw gi gb ∧ wordsOf gw gi gb ≤ (img.length : Int) then ((psplit_M tx_).bind fun r23 =>
if r23.2 = 0 then (if (r23.1.length : Int) = 0 then (pParent_J1 img l gw gi gb r23 13) else (pParent_J1 img l gw gi gb r23 r23.2)) else (pParent_J1 img l gw gi gb r23 r23.2)) else ((some (if May gw gi gb then (8 : Int) else 1)).bind fun r128 =>
if r128 = 0 then (none) else (some (0, ByteArray.empty, r128)))
theorem pParent_walk {img : List Int} {l : List (Int × Int)} {gw : Int} {gi : Int} {gb : Int} {tx_ : ByteArray} {vb : Nat} {r : Int × ByteArray × Int} (B : Nat) (w : World) (hm : pParent_M img l gw gi gb tx_ = some r) : Spec Tryz.prog 11 #[(zp vb), (.agg #[(zi gw), (zi gi), (zi gb)]), (.string tx_)] B w [viewA (ptr vb) img l] (fun v H' => v = (.tuple #[(zi r.1), (.string r.2.1), (zi r.2.2)]) ∧ H' = [viewA (ptr vb) img l]) := by
 refine spec_W Tryz.func11 rfl fun l0 hs => ?_
 unfold pParent_M at hm
 refine W.sr fun K1 hK1 => ?_
 refine zN [(zi gw), (zi gi), (zi gb)] 24 hs fun b4 w2 hs3 => ?_
 refine zE 3 (hK1 _ _ ?_)
 refine W.sr fun K7 hK7 => ?_
 refine zR 1 ?_
 refine zG ⟨b4, 0, none⟩ [(zi gw), (zi gi), (zi gb)] (cells_sub (hs3.heapAt 0 rfl) rfl) ?_
 rcases Bool.eq_false_or_eq_true (decide (May gw gi gb ∧ wordsOf gw gi gb ≤ (img.length : Int))) with h8 | h8
 ·
  obtain ⟨h8p, hm⟩ := iY hm h8
  refine zC00 hs3 (popen_ok (gw := gw) (gi := gi) (gb := gb) (hv := (hs3.entAt 1 rfl viewA_at)) (hP := h8p) B _) fun w9 hs11 => ?_
  refine zR 3 ?_
  refine zN [(.pointer none), (zi 0), (zi 0), (zi 0)] 89 hs11 fun b14 w12 hs13 => ?_
  refine zT 0 [(zp vb), (zi gw), (zi gi), (zi gb)] [(zp vb), (zi gw), (zi gi), (zi gb)] hs13 fun w15 hs17 => ?_
  refine zE 1 (hK7 _ _ ?_)
  refine W.seq fun K18 hK18 => ?_
  refine W.sr fun K19 hK19 => ?_
  refine zE 2 (hK19 _ _ ?_)
  refine W.cond_false false (by kernel_rfl) rfl ?_
  refine W.skip ?_
  refine hK18 _ _ ?_
  refine W.sr fun K20 hK20 => ?_
  refine zR 1 ?_
  obtain ⟨r23, h24, hm⟩ := bind_some hm
  refine ops_call0 hs17 (by kernel_rfl) (psplit_walk (tx_ := tx_) (hm := h24) B _) ?_
  rintro _ _ w25 ⟨a21, c22, rfl, rfl⟩ hs26
  have hs27 := St.ap1 hs26
  refine zE 5 (hK20 _ _ ?_)
  refine W.seq_join (fun s_ w_ => ∃ (p28 : Int), (∃ us, s_ = slots 75 [(0, (zp vb)), (4, (zp b4)), (8, (zi p28)), (9, (zp b14)), (10, (.slice a21 r23.1.length c22))] us) ∧ St B w l0 w_ [viewA (ptr vb) img l, zb b4 24 [(zi gw), (zi gi), (zi gb)], zb b14 89 [(zp vb), (zi gw), (zi gi), (zi gb)], kStr.row a21 c22 r23.1] ∧ pParent_J1 img l gw gi gb r23 p28 = some r) ?_ ?_
  ·
   rintro _ w29 ⟨p28, ⟨us, rfl⟩, hs30, hm⟩
   unfold pParent_J1 at hm
   refine W.seq fun K31 hK31 => ?_
   refine W.sr fun K32 hK32 => ?_
   refine zE 2 (hK32 _ _ ?_)
   refine W.cond (!decide (p28 = 0)) (by kernel_rfl) (fun h33 => ?_) (fun h33 => ?_)
   rotate_left
   ·
    have h33p : p28 = 0 := of_decide_eq_true (bnot_false h33)
    replace hm := ite_yes hm h33p
    refine W.skip ?_
    refine hK31 _ _ ?_
    refine W.sr fun K34 hK34 => ?_
    refine zR 2 ?_
    obtain ⟨h35, hm⟩ := need_some hm
    refine zI _ (wrap_i64 h35.1 h35.2) ?_
    refine zR 1 ?_
    obtain ⟨r36, h37, hm⟩ := bind_some hm
    replace h37 := some_inj h37
    refine ops_set 11 (v := .int .i64 r36) (Eq.trans (by kernel_rfl) (congrArg (Value.int .i64) h37)) ?_
    refine zD (hK34 _ _ ?_)
    refine W.seq fun K38 hK38 => ?_
    have hs39 := hs30.drew
    refine W.regionD [(0, 0), (0, 0), (3, 3), (0, 0), (8, 8), (20, 20), (32, 32), (64, 64), (64, 64), (255, 128), (1023, 256)] (fun w_ => St B w l0 w_ [viewA (ptr vb) img l, zb b4 24 [(zi gw), (zi gi), (zi gb)], zb b14 89 [(zp vb), (zi gw), (zi gi), (zi gb)], kStr.row a21 c22 r23.1]) (by kernel_rfl) hs39 ?_
    refine zA (.slice a21 r23.1.length c22) 0 hs39 ?_
    refine zA (zi r36) 1 hs39 ?_
    obtain ⟨h40, hm⟩ := need_some hm
    have hc41 := St.kcap kStr hs39 3 rfl
    refine any_R 2 (by kernel_rfl) (fun _ hS_ => runs_prefixL (a := a21) (n := r23.1.length) (c := c22) (z := r36) (size := 1) r36.toNat (r23.1.take r36.toNat).length (le_take_len (le_toNat h40)) (nat_of h40.1) (le_toNat h40) hc41 (by kernel_rfl)) hs39 ?_
    refine any_R 3 (by kernel_rfl) (fun _ hS_ => runs_loadAgg (ad := ⟨b14, 0, none⟩) (cs := [(zp vb), (zi gw), (zi gi), (zi gb)]) (by kernel_rfl) (cells_sub (hS_.heapAt 2 rfl) rfl)) hs39 ?_
    refine zA (.func (.func 30) #[(.agg #[(zp vb), (zi gw), (zi gi), (zi gb)])] #[]) 4 hs39 ?_
    refine any_step 5 (by kernel_rfl) (by kernel_rfl) ?_
    obtain ⟨r42, h43, hm⟩ := bind_some hm
    have hs44 := St.f3 hs39
    have hs45 := St.f1 hs44
    refine zC22 hs45 (pwalk_walk (vb := vb) (xa := a21) (xc := c22) (A_ := kStr.row a21 c22 r23.1) (img := img) (l := l) (gw := gw) (gi := gi) (gb := gb) (xs := (r23.1.take r36.toNat)) (hA := fun h_ => (cells_take kStr r36.toNat (row_at h_))) (hm := h43) B _) fun w46 hs48 => ?_
    have hs49 := St.f1 hs48
    have hs50 := St.f3 hs49
    have hs51 := St.f3 hs50
    have hs52 := St.f3 hs51
    refine ops_done (by kernel_rfl) ⟨hs52, ?_⟩
    refine zA (.tuple #[(zi r42.1), (zi r42.2)]) 6 hs52 ?_
    refine zA (zi r42.1) 7 hs52 ?_
    refine zA (zi r42.2) 8 hs52 ?_
    refine zA (zi r42.1) 9 hs52 ?_
    refine zA (zi r42.2) 10 hs52 ?_
    refine any_done (by kernel_rfl) ?_
    refine hK38 _ _ ?_
    refine W.seq fun K53 hK53 => ?_
    refine W.sr fun K54 hK54 => ?_
    refine zE 2 (hK54 _ _ ?_)
    refine W.cond (!decide (r42.2 = 0)) (by kernel_rfl) (fun h55 => ?_) (fun h55 => ?_)
    rotate_left
    ·
     have h55p : r42.2 = 0 := of_decide_eq_true (bnot_false h55)
     replace hm := ite_yes hm h55p
     refine W.skip ?_
     refine hK53 _ _ ?_
     refine W.sr fun K56 hK56 => ?_
     refine zR 1 ?_
     refine zG ⟨b4, 0, none⟩ [(zi gw), (zi gi), (zi gb)] (cells_sub (hs48.heapAt 2 rfl) rfl) ?_
     refine zR 1 ?_
     obtain ⟨r57, h58, hm⟩ := bind_some hm
     replace h58 := some_inj h58
     refine ops_call0 hs48 (by kernel_rfl) (ig_spec (gw := gw) (gi := gi) (gb := gb) (n_ := r42.1) (hv := (hs48.entAt 0 rfl viewA_at)) B _) ?_
     rintro _ _ w59 ⟨hv61, hH62⟩ hs60
     rw [h58] at hv61
     try rw [h58] at hH62
     subst hv61 hH62
     have hs63 := St.ap0 hs60
     refine zR 3 ?_
     refine zN [(zu 0), (zu 0), (zu 0), (zu 0), (zu 0), (zu 0), (zu 0), (zu 0), (zu 0), (zu 0)] 65 hs63 fun b66 w64 hs65 => ?_
     refine zT 0 [(zu r57.1.k), (zu r57.1.l), (zu r57.1.o), (zu r57.1.s), (zu r57.1.a), (zu r57.1.b), (zu r57.1.c), (zu r57.1.d), (zu r57.1.e), (zu r57.1.m)] [(zu r57.1.k), (zu r57.1.l), (zu r57.1.o), (zu r57.1.s), (zu r57.1.a), (zu r57.1.b), (zu r57.1.c), (zu r57.1.d), (zu r57.1.e), (zu r57.1.m)] hs65 fun w67 hs69 => ?_
     refine zE 1 (hK56 _ _ ?_)
     refine W.seq_join (fun s_ w_ => ∃ (p70 : Int), (∃ us, s_ = slots 75 [(8, (zi p70)), (10, (.slice a21 r23.1.length c22)), (11, (zi r36)), (12, (zi r42.1))] us) ∧ St B w l0 w_ [kStr.row a21 c22 r23.1, zb b66 65 [(zu r57.1.k), (zu r57.1.l), (zu r57.1.o), (zu r57.1.s), (zu r57.1.a), (zu r57.1.b), (zu r57.1.c), (zu r57.1.d), (zu r57.1.e), (zu r57.1.m)], viewA (ptr vb) img l, zb b4 24 [(zi gw), (zi gi), (zi gb)], zb b14 89 [(zp vb), (zi gw), (zi gi), (zi gb)]] ∧ pParent_J2 r23 r36 r42 p70 = some r) ?_ ?_
     ·
      rintro _ w71 ⟨p70, ⟨us, rfl⟩, hs72, hm⟩
      unfold pParent_J2 at hm
      refine W.seq fun K73 hK73 => ?_
      refine W.sr fun K74 hK74 => ?_
      refine zE 2 (hK74 _ _ ?_)
      refine W.cond (!decide (p70 = 0)) (by kernel_rfl) (fun h75 => ?_) (fun h75 => ?_)
      rotate_left
      ·
       have h75p : p70 = 0 := of_decide_eq_true (bnot_false h75)
       replace hm := ite_yes hm h75p
       refine W.skip ?_
       refine hK73 _ _ ?_
       refine W.seq fun K76 hK76 => ?_
       have hs77 := hs72.drew
       refine W.regionD [(0, 0), (0, 0), (0, 0), (6, 6), (8, 8), (1, 1), (63, 16), (127, 0)] (fun w_ => St B w l0 w_ [kStr.row a21 c22 r23.1, zb b66 65 [(zu r57.1.k), (zu r57.1.l), (zu r57.1.o), (zu r57.1.s), (zu r57.1.a), (zu r57.1.b), (zu r57.1.c), (zu r57.1.d), (zu r57.1.e), (zu r57.1.m)], viewA (ptr vb) img l, zb b4 24 [(zi gw), (zi gi), (zi gb)], zb b14 89 [(zp vb), (zi gw), (zi gi), (zi gb)]]) (by kernel_rfl) hs77 ?_
       refine zA (zi r42.1) 0 hs77 ?_
       refine zA (.slice a21 r23.1.length c22) 1 hs77 ?_
       refine zA (zi r36) 2 hs77 ?_
       obtain ⟨h79, hm⟩ := need_some hm
       have hk78 := lt_toNat h79
       refine any_R 3 (by kernel_rfl) (fun _ hS_ => runs_index (a := a21) (n := r23.1.length) (z := r36) (size := 1) r36.toNat (nat_of h79.1) hk78 (kStr.addr (St.kcells kStr hs77 0 rfl) hk78) (by kernel_rfl)) hs77 ?_
       refine zB 4 ((adr a21 (r36.toNat * 1)).add 0) (.string (r23.1.getD r36.toNat ByteArray.empty)) (fun _ hS_ => (kStr.at (St.kcells kStr hS_ 0 rfl) hk78 ByteArray.empty 0 rfl)) hs77 ?_
       refine zA (zi r42.1) 5 hs77 ?_
       refine zA (.string (r23.1.getD r36.toNat ByteArray.empty)) 6 hs77 ?_
       refine zA (zi 0) 7 hs77 ?_
       refine any_done (by kernel_rfl) ?_
       refine hK76 _ _ ?_
       refine W.ret ?_
       obtain rfl := some_inj hm
       have hs80 := St.f2 hs77
       have hs81 := St.tk1 hs80
       refine ret_of (.tuple #[(zi r42.1), (.string (r23.1.getD r36.toNat ByteArray.empty)), (zi 0)]) (by kernel_rfl) ⟨_, ⟨rfl, rfl⟩, hs81⟩
      have h75p : ¬ (p70 = 0) := of_decide_eq_false (bnot_true h75)
      replace hm := ite_no hm h75p
      refine W.sr fun K82 hK82 => ?_
      refine zE 4 (hK82 _ _ ?_)
      refine W.ret (ret_seq ?_)
      obtain rfl := some_inj hm
      have hs83 := St.f2 hs72
      have hs84 := St.tk1 hs83
      refine ret_of (.tuple #[(zi 0), (.string ByteArray.empty), (zi p70)]) (by kernel_rfl) ⟨_, ⟨rfl, rfl⟩, hs84⟩
     refine W.sr fun K85 hK85 => ?_
     refine zR 3 ?_
     rcases Bool.eq_false_or_eq_true (decide (r57.2 = 0)) with h86 | h86
     ·
      obtain ⟨h86p, hm⟩ := iY hm h86
      refine zS 62 h86 ?_
      refine zS 61 h86 ?_
      refine zR 1 ?_
      refine zL ⟨b66, 0, none⟩ (zu r57.1.k) (hs69.cellAt 0 rfl rfl) ?_
      refine zE 2 (hK85 _ _ ?_)
      refine W.cond (!decide (r57.1.k = 2)) (by kernel_rfl) (fun h87 => ?_) (fun h87 => ?_)
      rotate_left
      ·
       have h87p : r57.1.k = 2 := of_decide_eq_true (bnot_false h87)
       replace hm := ite_yes hm h87p
       refine W.skip ?_
       have hs88 := St.f4 hs69
       have hs89 := St.f4 hs88
       have hs90 := St.f3 hs89
       have hs91 := St.f3 hs90
       have hs92 := St.f4 hs91
       exact ⟨r57.2, slots_intro _ (by kernel_rfl), hs92, hm⟩
      have h87p : ¬ (r57.1.k = 2) := of_decide_eq_false (bnot_true h87)
      replace hm := ite_no hm h87p
      refine W.region ?_
      refine zE 1 ?_
      have hs93 := St.f4 hs69
      have hs94 := St.f4 hs93
      have hs95 := St.f3 hs94
      have hs96 := St.f3 hs95
      have hs97 := St.f4 hs96
      exact ⟨10, slots_intro _ (by kernel_rfl), hs97, hm⟩
     obtain ⟨h86p, hm⟩ := iN hm h86
     refine zS 62 h86 ?_
     refine zS 61 h86 ?_
     refine zE 4 (hK85 _ _ ?_)
     refine W.cond_false false (by kernel_rfl) rfl ?_
     refine W.skip ?_
     have hs98 := St.f4 hs69
     have hs99 := St.f4 hs98
     have hs100 := St.f3 hs99
     have hs101 := St.f3 hs100
     have hs102 := St.f4 hs101
     exact ⟨r57.2, slots_intro _ (by kernel_rfl), hs102, hm⟩
    have h55p : ¬ (r42.2 = 0) := of_decide_eq_false (bnot_true h55)
    replace hm := ite_no hm h55p
    refine W.sr fun K103 hK103 => ?_
    refine zE 4 (hK103 _ _ ?_)
    refine W.ret (ret_seq ?_)
    obtain rfl := some_inj hm
    have hs104 := St.tk1 hs48
    refine ret_of (.tuple #[(zi 0), (.string ByteArray.empty), (zi r42.2)]) (by kernel_rfl) ⟨_, ⟨rfl, rfl⟩, hs104⟩
   have h33p : ¬ (p28 = 0) := of_decide_eq_false (bnot_true h33)
   replace hm := ite_no hm h33p
   refine W.sr fun K105 hK105 => ?_
   refine zE 4 (hK105 _ _ ?_)
   refine W.ret (ret_seq ?_)
   obtain rfl := some_inj hm
   have hs106 := St.tk1 hs30
   refine ret_of (.tuple #[(zi 0), (.string ByteArray.empty), (zi p28)]) (by kernel_rfl) ⟨_, ⟨rfl, rfl⟩, hs106⟩
  refine W.sr fun K107 hK107 => ?_
  refine zR 3 ?_
  rcases Bool.eq_false_or_eq_true (decide (r23.2 = 0)) with h108 | h108
  ·
   obtain ⟨h108p, hm⟩ := iY hm h108
   refine zS 30 h108 ?_
   refine zS 29 h108 ?_
   refine zE 4 (hK107 _ _ ?_)
   refine W.cond (decide ((r23.1.length : Int) = 0)) (by kernel_rfl) (fun h109 => ?_) (fun h109 => ?_)
   ·
    obtain ⟨h109p, hm⟩ := iY hm h109
    refine W.region ?_
    refine zE 1 ?_
    have hs110 := St.f1 hs27
    have hs111 := St.f2 hs110
    have hs112 := St.f3 hs111
    exact ⟨13, slots_intro _ (by kernel_rfl), hs112, hm⟩
   obtain ⟨h109p, hm⟩ := iN hm h109
   refine W.skip ?_
   have hs113 := St.f1 hs27
   have hs114 := St.f2 hs113
   have hs115 := St.f3 hs114
   exact ⟨r23.2, slots_intro _ (by kernel_rfl), hs115, hm⟩
  obtain ⟨h108p, hm⟩ := iN hm h108
  refine zS 30 h108 ?_
  refine zS 29 h108 ?_
  refine zE 4 (hK107 _ _ ?_)
  refine W.cond_false false (by kernel_rfl) rfl ?_
  refine W.skip ?_
  have hs116 := St.f1 hs27
  have hs117 := St.f2 hs116
  have hs118 := St.f3 hs117
  exact ⟨r23.2, slots_intro _ (by kernel_rfl), hs118, hm⟩
 obtain ⟨h8p, hm⟩ := iN hm h8
 refine zC00 hs3 (popen_err (gw := gw) (gi := gi) (gb := gb) (hv := (hs3.entAt 1 rfl viewA_at)) (hN := h8p) B _) fun w119 hs121 => ?_
 refine zR 3 ?_
 refine zN [(.pointer none), (zi 0), (zi 0), (zi 0)] 89 hs121 fun b124 w122 hs123 => ?_
 refine zT 0 [(.pointer none), (zi 0), (zi 0), (zi 0)] [(.pointer none), (zi 0), (zi 0), (zi 0)] hs123 fun w125 hs127 => ?_
 refine zR 1 ?_
 obtain ⟨r128, h129, hm⟩ := bind_some hm
 replace h129 := some_inj h129
 refine ops_set 8 (v := .int .i64 r128) (Eq.trans (by kernel_rfl) (congrArg (Value.int .i64) h129)) ?_
 refine zD (hK7 _ _ ?_)
 refine W.seq fun K130 hK130 => ?_
 refine W.sr fun K131 hK131 => ?_
 refine zE 2 (hK131 _ _ ?_)
 refine W.cond (!decide (r128 = 0)) (by kernel_rfl) (fun h132 => ?_) (fun h132 => ?_)
 rotate_left
 ·
  have h132p : r128 = 0 := of_decide_eq_true (bnot_false h132)
  exact absurd h132p (fun e_ => (show ¬ ((if May gw gi gb then (8 : Int) else 1) = 0) by split <;> decide) (h129.trans e_))
 have h132p : ¬ (r128 = 0) := of_decide_eq_false (bnot_true h132)
 replace hm := ite_no hm h132p
 refine W.sr fun K133 hK133 => ?_
 refine zE 4 (hK133 _ _ ?_)
 refine W.ret (ret_seq ?_)
 obtain rfl := some_inj hm
 have hs134 := St.f2 hs127
 have hs135 := St.tk1 hs134
 refine ret_of (.tuple #[(zi 0), (.string ByteArray.empty), (zi r128)]) (by kernel_rfl) ⟨_, ⟨rfl, rfl⟩, hs135⟩
end Go.Proofs.YtmmclabkkigiaaaGreat

set_option maxRecDepth 20000
set_option maxHeartbeats 4000000
namespace Go.Proofs.YtmmclabkkigiaaaGreat
open Go Go.RowKit
def pWithin_J2 (a_ : Int) (k27 : (Int × Int) → Option (Bool × Int)) (p25 : Int) (p26 : Int) (r38 : Nd × Int) (p52 : Bool) : Option (Bool × Int) :=
 if p52 = true then (if r38.2 = 0 then (some (decide (a_ = p25), r38.2)) else (some (false, r38.2))) else (need (-9223372036854775808 ≤ r38.1.m ∧ r38.1.m ≤ 9223372036854775807) <|
need (-9223372036854775808 ≤ (p26 + 1) ∧ (p26 + 1) ≤ 9223372036854775807) <|
k27 (r38.1.m, (p26 + 1)))
def pWithin_B0 (img : List Int) (l : List (Int × Int)) (gw : Int) (gi : Int) (gb : Int) (a_ : Int) (k27 : (Int × Int) → Option (Bool × Int)) (p25 : Int) (p26 : Int) : Option (Bool × Int) :=
 if p26 < (gi + 1) then ((some (igetM img l gw gi gb p25)).bind fun r38 =>
if r38.2 = 0 then (if a_ = p25 then (pWithin_J2 a_ k27 p25 p26 r38 true) else (pWithin_J2 a_ k27 p25 p26 r38 (decide (r38.1.m = 0)))) else (pWithin_J2 a_ k27 p25 p26 r38 true)) else (some (false, 4))
def pWithin_M (img : List Int) (l : List (Int × Int)) (gw : Int) (gi : Int) (gb : Int) (a_ : Int) (b_ : Int) : Option (Bool × Int) :=
 (some (igetM img l gw gi gb a_)).bind fun r7 =>
if r7.2 = 0 then (need (-9223372036854775808 ≤ (gi + 1) ∧ (gi + 1) ≤ 9223372036854775807) <|
iter (fun k_ s_ => pWithin_B0 img l gw gi gb a_ k_ s_.1 s_.2) FUEL (b_, 0)) else (some (false, r7.2))
theorem pWithin_walk {img : List Int} {l : List (Int × Int)} {gw : Int} {gi : Int} {gb : Int} {a_ : Int} {b_ : Int} {vb : Nat} {r : Bool × Int} (B : Nat) (w : World) (hm : pWithin_M img l gw gi gb a_ b_ = some r) : Spec Tryz.prog 13 #[(zp vb), (.agg #[(zi gw), (zi gi), (zi gb)]), (zi a_), (zi b_)] B w [viewA (ptr vb) img l] (fun v H' => v = (.tuple #[(.bool r.1), (zi r.2)]) ∧ H' = [viewA (ptr vb) img l]) := by
 refine spec_W Tryz.func13 rfl fun l0 hs => ?_
 unfold pWithin_M at hm
 refine W.sr fun K1 hK1 => ?_
 refine zN [(zi gw), (zi gi), (zi gb)] 24 hs fun b4 w2 hs3 => ?_
 refine zE 2 (hK1 _ _ ?_)
 refine W.seq fun K5 hK5 => ?_
 refine W.sr fun K6 hK6 => ?_
 refine zR 1 ?_
 refine zG ⟨b4, 0, none⟩ [(zi gw), (zi gi), (zi gb)] (cells_sub (hs3.heapAt 0 rfl) rfl) ?_
 refine zR 1 ?_
 obtain ⟨r7, h8, hm⟩ := bind_some hm
 replace h8 := some_inj h8
 refine ops_call0 hs3 (by kernel_rfl) (ig_spec (gw := gw) (gi := gi) (gb := gb) (n_ := a_) (hv := (hs3.entAt 1 rfl viewA_at)) B _) ?_
 rintro _ _ w9 ⟨hv11, hH12⟩ hs10
 rw [h8] at hv11
 try rw [h8] at hH12
 subst hv11 hH12
 have hs13 := St.ap0 hs10
 refine zR 3 ?_
 refine zN [(zu 0), (zu 0), (zu 0), (zu 0), (zu 0), (zu 0), (zu 0), (zu 0), (zu 0), (zu 0)] 65 hs13 fun b16 w14 hs15 => ?_
 refine zT 0 [(zu r7.1.k), (zu r7.1.l), (zu r7.1.o), (zu r7.1.s), (zu r7.1.a), (zu r7.1.b), (zu r7.1.c), (zu r7.1.d), (zu r7.1.e), (zu r7.1.m)] [(zu r7.1.k), (zu r7.1.l), (zu r7.1.o), (zu r7.1.s), (zu r7.1.a), (zu r7.1.b), (zu r7.1.c), (zu r7.1.d), (zu r7.1.e), (zu r7.1.m)] hs15 fun w17 hs19 => ?_
 refine zE 1 (hK6 _ _ ?_)
 refine W.sr fun K20 hK20 => ?_
 refine zE 2 (hK20 _ _ ?_)
 refine W.cond (!decide (r7.2 = 0)) (by kernel_rfl) (fun h21 => ?_) (fun h21 => ?_)
 rotate_left
 ·
  have h21p : r7.2 = 0 := of_decide_eq_true (bnot_false h21)
  replace hm := ite_yes hm h21p
  refine W.skip ?_
  refine hK5 _ _ ?_
  refine W.seq fun K22 hK22 => ?_
  refine W.sr fun K23 hK23 => ?_
  refine zR 1 ?_
  refine zL ⟨b4, 1, none⟩ (zi gi) (hs19.cellAt 1 rfl rfl) ?_
  obtain ⟨h24, hm⟩ := need_some hm
  refine zI _ (wrap_i64 h24.1 h24.2) ?_
  refine zE 1 (hK23 _ _ ?_)
  refine W.block ?_
  have hs31 := St.f1 hs19
  have hs32 := St.f2 hs31
  refine W.loop_iter (G := Int × Int) (σ := Int × Int) (fun | (p25, p26) => (p25, p26)) (fun | (p25, p26), s_, w_ => (∃ us, s_ = slots 60 [(0, (zp vb)), (2, (zi a_)), (3, (zi p25)), (5, (zp b4)), (26, (zi (gi + 1))), (27, (zi p26))] us) ∧ St B w l0 w_ [viewA (ptr vb) img l, zb b4 24 [(zi gw), (zi gi), (zi gb)], zb b16 65 [(zu r7.1.k), (zu r7.1.l), (zu r7.1.o), (zu r7.1.s), (zu r7.1.a), (zu r7.1.b), (zu r7.1.c), (zu r7.1.d), (zu r7.1.e), (zu r7.1.m)]]) (b_, 0) ⟨slots_intro _ (by kernel_rfl), hs32⟩ hm ?_
  rintro k27 ih28 ⟨p25, p26⟩ _ w29 ⟨⟨us, rfl⟩, hs30⟩ hm
  replace hm : pWithin_B0 img l gw gi gb a_ k27 p25 p26 = some r := hm
  unfold pWithin_B0 at hm
  refine W.sr fun K33 hK33 => ?_
  refine zE 1 (hK33 _ _ ?_)
  refine W.seq fun K34 hK34 => ?_
  refine W.cond (decide (p26 < (gi + 1))) (by kernel_rfl) (fun h35 => ?_) (fun h35 => ?_)
  ·
   obtain ⟨h35p, hm⟩ := iY hm h35
   refine W.skip ?_
   refine hK34 _ _ ?_
   refine W.seq fun K36 hK36 => ?_
   refine W.block ?_
   refine W.sr fun K37 hK37 => ?_
   refine zR 1 ?_
   refine zG ⟨b4, 0, none⟩ [(zi gw), (zi gi), (zi gb)] (cells_sub (hs30.heapAt 1 rfl) rfl) ?_
   refine zR 1 ?_
   obtain ⟨r38, h39, hm⟩ := bind_some hm
   replace h39 := some_inj h39
   refine ops_call0 hs30 (by kernel_rfl) (ig_spec (gw := gw) (gi := gi) (gb := gb) (n_ := p25) (hv := (hs30.entAt 0 rfl viewA_at)) B _) ?_
   rintro _ _ w40 ⟨hv42, hH43⟩ hs41
   rw [h39] at hv42
   try rw [h39] at hH43
   subst hv42 hH43
   have hs44 := St.ap0 hs41
   refine zR 3 ?_
   refine zN [(zu 0), (zu 0), (zu 0), (zu 0), (zu 0), (zu 0), (zu 0), (zu 0), (zu 0), (zu 0)] 65 hs44 fun b47 w45 hs46 => ?_
   refine zT 0 [(zu r38.1.k), (zu r38.1.l), (zu r38.1.o), (zu r38.1.s), (zu r38.1.a), (zu r38.1.b), (zu r38.1.c), (zu r38.1.d), (zu r38.1.e), (zu r38.1.m)] [(zu r38.1.k), (zu r38.1.l), (zu r38.1.o), (zu r38.1.s), (zu r38.1.a), (zu r38.1.b), (zu r38.1.c), (zu r38.1.d), (zu r38.1.e), (zu r38.1.m)] hs46 fun w48 hs50 => ?_
   refine zE 1 (hK37 _ _ ?_)
   refine W.seq fun K51 hK51 => ?_
   refine W.seq_join (fun s_ w_ => ∃ (p52 : Bool), (∃ us, s_ = slots 60 [(0, (zp vb)), (2, (zi a_)), (3, (zi p25)), (5, (zp b4)), (12, (zp b47)), (13, (zi r38.2)), (26, (zi (gi + 1))), (27, (zi p26)), (47, (.bool p52))] us) ∧ St B w l0 w_ [viewA (ptr vb) img l, zb b4 24 [(zi gw), (zi gi), (zi gb)], zb b47 65 [(zu r38.1.k), (zu r38.1.l), (zu r38.1.o), (zu r38.1.s), (zu r38.1.a), (zu r38.1.b), (zu r38.1.c), (zu r38.1.d), (zu r38.1.e), (zu r38.1.m)], zb b16 65 [(zu r7.1.k), (zu r7.1.l), (zu r7.1.o), (zu r7.1.s), (zu r7.1.a), (zu r7.1.b), (zu r7.1.c), (zu r7.1.d), (zu r7.1.e), (zu r7.1.m)]] ∧ pWithin_J2 a_ k27 p25 p26 r38 p52 = some r) ?_ ?_
   ·
    rintro _ w53 ⟨p52, ⟨us, rfl⟩, hs54, hm⟩
    unfold pWithin_J2 at hm
    refine W.cond p52 (by kernel_rfl) (fun h55 => ?_) (fun h55 => ?_)
    ·
     have h55p : p52 = true := h55
     replace hm := ite_yes hm h55p
     refine W.sr fun K56 hK56 => ?_
     refine zR 3 ?_
     rcases Bool.eq_false_or_eq_true (decide (r38.2 = 0)) with h57 | h57
     ·
      obtain ⟨h57p, hm⟩ := iY hm h57
      refine zS 50 h57 ?_
      refine zS 49 h57 ?_
      refine zE 7 (hK56 _ _ ?_)
      refine W.ret (ret_seq (ret_block (ret_seq (ret_seq (ret_block (ret_seq ?_))))))
      obtain rfl := some_inj hm
      have hs58 := St.tk1 hs54
      refine ret_of (.tuple #[(.bool (decide (a_ = p25))), (zi r38.2)]) (by kernel_rfl) ⟨_, ⟨rfl, rfl⟩, hs58⟩
     obtain ⟨h57p, hm⟩ := iN hm h57
     refine zS 50 h57 ?_
     refine zS 49 h57 ?_
     refine zE 7 (hK56 _ _ ?_)
     refine W.ret (ret_seq (ret_block (ret_seq (ret_seq (ret_block (ret_seq ?_))))))
     obtain rfl := some_inj hm
     have hs59 := St.tk1 hs54
     refine ret_of (.tuple #[(.bool false), (zi r38.2)]) (by kernel_rfl) ⟨_, ⟨rfl, rfl⟩, hs59⟩
    have h55p : ¬ (p52 = true) := ne_true_of_eq_false h55
    replace hm := ite_no hm h55p
    refine W.skip ?_
    refine hK51 _ _ ?_
    refine W.region ?_
    refine zR 1 ?_
    refine zL ⟨b47, 9, none⟩ (zu r38.1.m) (hs54.cellAt 2 rfl rfl) ?_
    obtain ⟨h60, hm⟩ := need_some hm
    refine zI _ (wrap_i64 h60.1 h60.2) ?_
    refine zE 1 ?_
    refine normal_block ?_
    refine hK36 _ _ ?_
    refine W.region ?_
    obtain ⟨h61, hm⟩ := need_some hm
    refine zI _ (wrap_i64 h61.1 h61.2) ?_
    refine zE 1 ?_
    have hs62 := St.f3 hs54
    have hs63 := St.f2 hs62
    have hs64 := St.f2 hs63
    have hs65 := St.tk3 hs64
    refine loopAt_next ?_
    exact ih28 (r38.1.m, (p26 + 1)) _ _ ⟨slots_intro _ (by kernel_rfl), hs65⟩ hm
   refine W.region ?_
   refine zR 3 ?_
   rcases Bool.eq_false_or_eq_true (!decide (r38.2 = 0)) with h66 | h66
   rotate_left
   ·
    have h66p : r38.2 = 0 := of_decide_eq_true (bnot_false h66)
    replace hm := ite_yes hm h66p
    refine zS 38 h66 ?_
    refine zS 37 h66 ?_
    refine zR 5 ?_
    rcases Bool.eq_false_or_eq_true (decide (a_ = p25)) with h67 | h67
    ·
     obtain ⟨h67p, hm⟩ := iY hm h67
     refine zS 43 h67 ?_
     refine zS 41 h67 ?_
     refine zS 42 h67 ?_
     refine zE 4 ?_
     have hs68 := St.f3 hs50
     have hs69 := St.f1 hs68
     have hs70 := St.f3 hs69
     have hs71 := St.f3 hs70
     exact ⟨true, slots_intro _ (by kernel_rfl), hs71, hm⟩
    obtain ⟨h67p, hm⟩ := iN hm h67
    refine zS 43 h67 ?_
    refine zS 41 h67 ?_
    refine zS 42 h67 ?_
    refine zR 1 ?_
    refine zL ⟨b47, 9, none⟩ (zu r38.1.m) (hs50.cellAt 0 rfl rfl) ?_
    refine zE 2 ?_
    have hs72 := St.f3 hs50
    have hs73 := St.f1 hs72
    have hs74 := St.f3 hs73
    have hs75 := St.f3 hs74
    exact ⟨(decide (r38.1.m = 0)), slots_intro _ (by kernel_rfl), hs75, hm⟩
   have h66p : ¬ (r38.2 = 0) := of_decide_eq_false (bnot_true h66)
   replace hm := ite_no hm h66p
   refine zS 38 h66 ?_
   refine zS 37 h66 ?_
   refine zE 9 ?_
   have hs76 := St.f3 hs50
   have hs77 := St.f1 hs76
   have hs78 := St.f3 hs77
   have hs79 := St.f3 hs78
   exact ⟨true, slots_intro _ (by kernel_rfl), hs79, hm⟩
  obtain ⟨h35p, hm⟩ := iN hm h35
  refine W.exit (exit_seq (exit_seq (exit_here ?_)))
  refine hK22 _ _ ?_
  refine W.sr fun K80 hK80 => ?_
  refine zE 2 (hK80 _ _ ?_)
  refine W.ret ?_
  obtain rfl := some_inj hm
  have hs81 := St.tk1 hs30
  refine ret_of (.tuple #[(.bool false), (zi 4)]) (by kernel_rfl) ⟨_, ⟨rfl, rfl⟩, hs81⟩
 have h21p : ¬ (r7.2 = 0) := of_decide_eq_false (bnot_true h21)
 replace hm := ite_no hm h21p
 refine W.sr fun K82 hK82 => ?_
 refine zE 3 (hK82 _ _ ?_)
 refine W.ret (ret_seq ?_)
 obtain rfl := some_inj hm
 have hs83 := St.f2 hs19
 have hs84 := St.tk1 hs83
 refine ret_of (.tuple #[(.bool false), (zi r7.2)]) (by kernel_rfl) ⟨_, ⟨rfl, rfl⟩, hs84⟩
end Go.Proofs.YtmmclabkkigiaaaGreat

set_option maxRecDepth 20000
namespace Go.Proofs.YtmmclabkkigiaaaGreat
open Go Go.RowKit
def rsame16_B0 (xs : List ByteArray) (ys : List ByteArray) (k8 : Int → Option (Bool)) (p7 : Int) : Option (Bool) :=
 if p7 < (xs.length : Int) then (need (0 ≤ p7 ∧ p7 < (xs.length : Int)) <|
need (0 ≤ p7 ∧ p7 < (ys.length : Int)) <|
if ((xs.getD p7.toNat ByteArray.empty).toList == (ys.getD p7.toNat ByteArray.empty).toList) = true then (need (-9223372036854775808 ≤ (p7 + 1) ∧ (p7 + 1) ≤ 9223372036854775807) <|
k8 (p7 + 1)) else (some false)) else (some true)
def rsame16_M (xs : List ByteArray) (ys : List ByteArray) : Option (Bool) :=
 if (xs.length : Int) = (ys.length : Int) then (iter (fun k_ s_ => rsame16_B0 xs ys k_ s_) FUEL 0) else (some false)
theorem rsame16_walk {xs : List ByteArray} {ys : List ByteArray} {xa ya : Option Addr} {xc yc : Nat} {r : Bool} (B : Nat) (w : World) (hx : CellsAt xa (kStr.cells xs) w) (hy : CellsAt ya (kStr.cells ys) w) (hm : rsame16_M xs ys = some r) : Spec Tryz.prog 22 #[(.slice xa xs.length xc), (.slice ya ys.length yc)] B w [] (fun v H' => v = .bool r ∧ H' = []) := by
 refine spec_Q Tryz.func22 rfl fun hs => ?_
 unfold rsame16_M at hm
 refine W.sr fun K1 hK1 => ?_
 refine zE 1 (hK1 _ _ ?_)
 refine W.seq fun K2 hK2 => ?_
 refine W.sr fun K3 hK3 => ?_
 refine zE 5 (hK3 _ _ ?_)
 refine W.cond (!decide ((xs.length : Int) = (ys.length : Int))) (by kernel_rfl) (fun h4 => ?_) (fun h4 => ?_)
 rotate_left
 ·
  have h4p : (xs.length : Int) = (ys.length : Int) := of_decide_eq_true (bnot_false h4)
  replace hm := ite_yes hm h4p
  refine W.skip ?_
  refine hK2 _ _ ?_
  refine W.seq fun K5 hK5 => ?_
  refine W.sr fun K6 hK6 => ?_
  refine zE 1 (hK6 _ _ ?_)
  refine W.block ?_
  refine W.loop_iter (G := Int) (σ := Int) (fun | p7 => p7) (fun | p7, s_, w_ => (∃ us, s_ = slots 26 [(0, (.slice xa xs.length xc)), (1, (.slice ya ys.length yc)), (5, (zi p7))] us) ∧ St B w [] w_ []) 0 ⟨slots_intro _ (by kernel_rfl), hs⟩ hm ?_
  rintro k8 ih9 p7 _ w10 ⟨⟨us, rfl⟩, hs11⟩ hm
  replace hm : rsame16_B0 xs ys k8 p7 = some r := hm
  unfold rsame16_B0 at hm
  refine W.seq fun K12 hK12 => ?_
  refine W.sr fun K13 hK13 => ?_
  refine zE 4 (hK13 _ _ ?_)
  refine W.cond (decide (p7 < (xs.length : Int))) (by kernel_rfl) (fun h14 => ?_) (fun h14 => ?_)
  ·
   obtain ⟨h14p, hm⟩ := iY hm h14
   refine W.skip ?_
   refine hK12 _ _ ?_
   refine W.seq fun K15 hK15 => ?_
   refine W.block ?_
   refine W.seq fun K16 hK16 => ?_
   have hs17 := hs11.drew
   refine W.regionD [(0, 0), (0, 0), (3, 3), (4, 4), (0, 0), (0, 0), (48, 48), (64, 64), (136, 136)] (fun w_ => St B w [] w_ []) (by kernel_rfl) hs17 ?_
   refine zA (.slice xa xs.length xc) 0 hs17 ?_
   refine zA (zi p7) 1 hs17 ?_
   obtain ⟨h19, hm⟩ := need_some hm
   have hk18 := lt_toNat h19
   refine any_R 2 (by kernel_rfl) (fun _ hS_ => runs_index (a := xa) (n := xs.length) (z := p7) (size := 1) p7.toNat (nat_of h19.1) hk18 (kStr.addr (hs17.oldCells hx) hk18) (by kernel_rfl)) hs17 ?_
   refine zB 3 ((adr xa (p7.toNat * 1)).add 0) (.string (xs.getD p7.toNat ByteArray.empty)) (fun _ hS_ => (kStr.at (hS_.oldCells hx) hk18 ByteArray.empty 0 rfl)) hs17 ?_
   refine zA (.slice ya ys.length yc) 4 hs17 ?_
   refine zA (zi p7) 5 hs17 ?_
   obtain ⟨h21, hm⟩ := need_some hm
   have hk20 := lt_toNat h21
   refine any_R 6 (by kernel_rfl) (fun _ hS_ => runs_index (a := ya) (n := ys.length) (z := p7) (size := 1) p7.toNat (nat_of h21.1) hk20 (kStr.addr (hs17.oldCells hy) hk20) (by kernel_rfl)) hs17 ?_
   refine zB 7 ((adr ya (p7.toNat * 1)).add 0) (.string (ys.getD p7.toNat ByteArray.empty)) (fun _ hS_ => (kStr.at (hS_.oldCells hy) hk20 ByteArray.empty 0 rfl)) hs17 ?_
   refine zA (.bool (!((xs.getD p7.toNat ByteArray.empty).toList == (ys.getD p7.toNat ByteArray.empty).toList))) 8 hs17 ?_
   refine any_done (by kernel_rfl) ?_
   refine hK16 _ _ ?_
   refine W.cond (!((xs.getD p7.toNat ByteArray.empty).toList == (ys.getD p7.toNat ByteArray.empty).toList)) (by kernel_rfl) (fun h22 => ?_) (fun h22 => ?_)
   rotate_left
   ·
    have h22p : ((xs.getD p7.toNat ByteArray.empty).toList == (ys.getD p7.toNat ByteArray.empty).toList) = true := (bnot_false h22)
    replace hm := ite_yes hm h22p
    refine W.skip ?_
    refine normal_block ?_
    refine hK15 _ _ ?_
    refine W.region ?_
    refine zR 1 ?_
    obtain ⟨h23, hm⟩ := need_some hm
    refine zI _ (wrap_i64 h23.1 h23.2) ?_
    refine zE 1 ?_
    refine loopAt_next ?_
    exact ih9 (p7 + 1) _ _ ⟨slots_intro _ (by kernel_rfl), hs17⟩ hm
   have h22p : ¬ (((xs.getD p7.toNat ByteArray.empty).toList == (ys.getD p7.toNat ByteArray.empty).toList) = true) := ne_true_of_eq_false (bnot_true h22)
   replace hm := ite_no hm h22p
   refine W.sr fun K24 hK24 => ?_
   refine zE 1 (hK24 _ _ ?_)
   refine W.ret (ret_block (ret_seq (ret_seq (ret_block (ret_seq ?_)))))
   obtain rfl := some_inj hm
   refine ret_of (.bool false) (by kernel_rfl) ⟨_, ⟨rfl, rfl⟩, hs17⟩
  obtain ⟨h14p, hm⟩ := iN hm h14
  refine W.exit (exit_seq (exit_seq (exit_here ?_)))
  refine hK5 _ _ ?_
  refine W.sr fun K25 hK25 => ?_
  refine zE 1 (hK25 _ _ ?_)
  refine W.ret ?_
  obtain rfl := some_inj hm
  refine ret_of (.bool true) (by kernel_rfl) ⟨_, ⟨rfl, rfl⟩, hs11⟩
 have h4p : ¬ ((xs.length : Int) = (ys.length : Int)) := of_decide_eq_false (bnot_true h4)
 replace hm := ite_no hm h4p
 refine W.sr fun K26 hK26 => ?_
 refine zE 1 (hK26 _ _ ?_)
 refine W.ret (ret_seq ?_)
 obtain rfl := some_inj hm
 refine ret_of (.bool false) (by kernel_rfl) ⟨_, ⟨rfl, rfl⟩, hs⟩
end Go.Proofs.YtmmclabkkigiaaaGreat

set_option maxRecDepth 20000
set_option maxHeartbeats 8000000
namespace Go.Proofs.YtmmclabkkigiaaaGreat
open Go Go.RowKit
def works16_M  : Option (Bool) :=
 need ((0 : Int) ≤ 0 ∧ (0 : Int) ≤ 255) <|
need ((0 : Int) ≤ 0 ∧ (0 : Int) ≤ 255) <|
need ((fmtW 1 (2 + 0 % 20) (2 + 0 % 60)).length ≤ 17592186044415) <|
(psplit_M (ByteArray.mk #[47])).bind fun r30 =>
(psplit_M (ByteArray.mk #[47, 97, 47, 98])).bind fun r38 =>
(psplit_M (ByteArray.mk #[47, 97, 47])).bind fun r46 =>
(psplit_M (ByteArray.mk #[97])).bind fun r54 =>
(psplit_M ByteArray.empty).bind fun r62 =>
(pWalk_M (fmtW 1 (2 + 0 % 20) (2 + 0 % 60)) ([]) 1 (2 + 0 % 20) (2 + 0 % 60) (ByteArray.mk #[47])).bind fun r68 =>
(pWalk_M (fmtW 1 (2 + 0 % 20) (2 + 0 % 60)) ([]) 1 (2 + 0 % 20) (2 + 0 % 60) (ByteArray.mk #[47, 97])).bind fun r75 =>
(pParent_M (fmtW 1 (2 + 0 % 20) (2 + 0 % 60)) ([]) 1 (2 + 0 % 20) (2 + 0 % 60) (ByteArray.mk #[47, 97])).bind fun r81 =>
(pWithin_M (fmtW 1 (2 + 0 % 20) (2 + 0 % 60)) ([]) 1 (2 + 0 % 20) (2 + 0 % 60) 1 1).bind fun r87 =>
if r30.2 = 0 then (if (r30.1.length : Int) = 0 then (if r38.2 = 0 then ((rsame16_M r38.1 ([(ByteArray.mk #[97]), (ByteArray.mk #[98])])).bind fun r100 =>
if r100 = true then (if r46.2 = 13 then (if r54.2 = 13 then (if r62.2 = 13 then (if r68.2 = 0 then (if r68.1 = 1 then (if r75.2 = 6 then (if r81.2.2 = 0 then (if r81.1 = 1 then (if (r81.2.1.toList == (ByteArray.mk #[97]).toList) = true then (if r87.2 = 0 then (some r87.1) else (some false)) else (some false)) else (some false)) else (some false)) else (some false)) else (some false)) else (some false)) else (some false)) else (some false)) else (some false)) else (some false)) else (some false)) else (some false)) else (some false)
theorem works16_walk   {r : Bool} (B : Nat) (w : World) (hm : works16_M = some r) : Spec Tryz.prog 5 #[] B w [] (fun v H' => v = .bool r ∧ H' = []) := by
 refine spec_Q Tryz.func5 rfl fun hs => ?_
 unfold works16_M at hm
 refine W.sr fun K1 hK1 => ?_
 refine zE 1 (hK1 _ _ ?_)
 refine W.sr fun K2 hK2 => ?_
 obtain ⟨h3, hm⟩ := need_some hm
 obtain ⟨h4, hm⟩ := need_some hm
 refine zC00 hs (small_spec (x_ := 0) (y_ := 0) (hx := h3) (hy := h4) B _) fun w5 hs7 => ?_
 refine zN [(zi 0), (zi 0), (zi 0)] 24 hs7 fun b10 w8 hs9 => ?_
 refine zT 0 [(zi 1), (zi (2 + 0 % 20)), (zi (2 + 0 % 60))] [(zi 1), (zi (2 + 0 % 20)), (zi (2 + 0 % 60))] hs9 fun w11 hs13 => ?_
 refine zD (hK2 _ _ ?_)
 refine W.sr fun K14 hK14 => ?_
 refine zG ⟨b10, 0, none⟩ [(zi 1), (zi (2 + 0 % 20)), (zi (2 + 0 % 60))] (cells_sub (hs13.heapAt 0 rfl) rfl) ?_
 refine ops_call0 hs13 (by kernel_rfl) (format_spec (gw := 1) (gi := (2 + 0 % 20)) (gb := (2 + 0 % 60)) B _) ?_
 rintro _ _ w17 ⟨a15, c16, rfl, rfl⟩ hs18
 have hs19 := St.ap1 hs18
 obtain ⟨h21, hm⟩ := need_some hm
 refine ops_call0 hs19 (by kernel_rfl) (new_spec (hc := (St.kcells kU64 hs19 0 rfl)) (hn := (St.capnil kU64 hs19 0 rfl)) (hsz := h21) B _) ?_
 rintro _ _ w22 ⟨b20, rfl, rfl⟩ hs23
 have hs24 := St.ap1 hs23
 refine zE 1 (hK14 _ _ ?_)
 refine W.seq fun K25 hK25 => ?_
 refine W.sr fun K26 hK26 => ?_
 refine zE 2 (hK26 _ _ ?_)
 refine W.cond_false false (by kernel_rfl) rfl ?_
 refine W.skip ?_
 refine hK25 _ _ ?_
 refine W.sr fun K27 hK27 => ?_
 obtain ⟨r30, h31, hm⟩ := bind_some hm
 refine ops_call0 hs24 (by kernel_rfl) (psplit_walk (tx_ := (ByteArray.mk #[47])) (hm := h31) B _) ?_
 rintro _ _ w32 ⟨a28, c29, rfl, rfl⟩ hs33
 have hs34 := St.ap1 hs33
 refine zE 5 (hK27 _ _ ?_)
 refine W.sr fun K35 hK35 => ?_
 obtain ⟨r38, h39, hm⟩ := bind_some hm
 refine ops_call0 hs34 (by kernel_rfl) (psplit_walk (tx_ := (ByteArray.mk #[47, 97, 47, 98])) (hm := h39) B _) ?_
 rintro _ _ w40 ⟨a36, c37, rfl, rfl⟩ hs41
 have hs42 := St.ap1 hs41
 refine zE 5 (hK35 _ _ ?_)
 refine W.sr fun K43 hK43 => ?_
 obtain ⟨r46, h47, hm⟩ := bind_some hm
 refine ops_call0 hs42 (by kernel_rfl) (psplit_walk (tx_ := (ByteArray.mk #[47, 97, 47])) (hm := h47) B _) ?_
 rintro _ _ w48 ⟨a44, c45, rfl, rfl⟩ hs49
 have hs50 := St.ap1 hs49
 refine zE 5 (hK43 _ _ ?_)
 refine W.sr fun K51 hK51 => ?_
 obtain ⟨r54, h55, hm⟩ := bind_some hm
 refine ops_call0 hs50 (by kernel_rfl) (psplit_walk (tx_ := (ByteArray.mk #[97])) (hm := h55) B _) ?_
 rintro _ _ w56 ⟨a52, c53, rfl, rfl⟩ hs57
 have hs58 := St.ap1 hs57
 refine zE 5 (hK51 _ _ ?_)
 refine W.sr fun K59 hK59 => ?_
 obtain ⟨r62, h63, hm⟩ := bind_some hm
 refine ops_call0 hs58 (by kernel_rfl) (psplit_walk (tx_ := ByteArray.empty) (hm := h63) B _) ?_
 rintro _ _ w64 ⟨a60, c61, rfl, rfl⟩ hs65
 have hs66 := St.ap1 hs65
 refine zE 5 (hK59 _ _ ?_)
 refine W.sr fun K67 hK67 => ?_
 refine zR 1 ?_
 refine zG ⟨b10, 0, none⟩ [(zi 1), (zi (2 + 0 % 20)), (zi (2 + 0 % 60))] (cells_sub (hs66.heapAt 7 rfl) rfl) ?_
 obtain ⟨r68, h69, hm⟩ := bind_some hm
 have hs70 := St.f5 hs66
 refine zC11 hs70 (pWalk_walk (vb := b20) (gw := 1) (gi := (2 + 0 % 20)) (gb := (2 + 0 % 60)) (tx_ := (ByteArray.mk #[47])) (img := (fmtW 1 (2 + 0 % 20) (2 + 0 % 60))) (l := []) (hm := h69) B _) fun w71 hs73 => ?_
 refine zE 5 (hK67 _ _ ?_)
 refine W.sr fun K74 hK74 => ?_
 refine zR 1 ?_
 refine zG ⟨b10, 0, none⟩ [(zi 1), (zi (2 + 0 % 20)), (zi (2 + 0 % 60))] (cells_sub (hs73.heapAt 7 rfl) rfl) ?_
 obtain ⟨r75, h76, hm⟩ := bind_some hm
 refine zC11 hs73 (pWalk_walk (vb := b20) (gw := 1) (gi := (2 + 0 % 20)) (gb := (2 + 0 % 60)) (tx_ := (ByteArray.mk #[47, 97])) (img := (fmtW 1 (2 + 0 % 20) (2 + 0 % 60))) (l := []) (hm := h76) B _) fun w77 hs79 => ?_
 refine zE 5 (hK74 _ _ ?_)
 refine W.sr fun K80 hK80 => ?_
 refine zR 1 ?_
 refine zG ⟨b10, 0, none⟩ [(zi 1), (zi (2 + 0 % 20)), (zi (2 + 0 % 60))] (cells_sub (hs79.heapAt 7 rfl) rfl) ?_
 obtain ⟨r81, h82, hm⟩ := bind_some hm
 refine zC11 hs79 (pParent_walk (vb := b20) (gw := 1) (gi := (2 + 0 % 20)) (gb := (2 + 0 % 60)) (tx_ := (ByteArray.mk #[47, 97])) (img := (fmtW 1 (2 + 0 % 20) (2 + 0 % 60))) (l := []) (hm := h82) B _) fun w83 hs85 => ?_
 refine zE 7 (hK80 _ _ ?_)
 refine W.sr fun K86 hK86 => ?_
 refine zR 1 ?_
 refine zG ⟨b10, 0, none⟩ [(zi 1), (zi (2 + 0 % 20)), (zi (2 + 0 % 60))] (cells_sub (hs85.heapAt 7 rfl) rfl) ?_
 obtain ⟨r87, h88, hm⟩ := bind_some hm
 refine zC11 hs85 (pWithin_walk (vb := b20) (gw := 1) (gi := (2 + 0 % 20)) (gb := (2 + 0 % 60)) (a_ := 1) (b_ := 1) (img := (fmtW 1 (2 + 0 % 20) (2 + 0 % 60))) (l := []) (hm := h88) B _) fun w89 hs91 => ?_
 refine zE 5 (hK86 _ _ ?_)
 refine W.sr fun K92 hK92 => ?_
 refine zR 3 ?_
 rcases Bool.eq_false_or_eq_true (decide (r30.2 = 0)) with h93 | h93
 ·
  obtain ⟨h93p, hm⟩ := iY hm h93
  refine zS 75 h93 ?_
  refine zS 74 h93 ?_
  refine zR 5 ?_
  rcases Bool.eq_false_or_eq_true (decide ((r30.1.length : Int) = 0)) with h94 | h94
  ·
   obtain ⟨h94p, hm⟩ := iY hm h94
   refine zS 80 h94 ?_
   refine zS 78 h94 ?_
   refine zS 79 h94 ?_
   refine zR 4 ?_
   rcases Bool.eq_false_or_eq_true (decide (r38.2 = 0)) with h95 | h95
   ·
    obtain ⟨h95p, hm⟩ := iY hm h95
    refine zS 84 h95 ?_
    refine zS 82 h95 ?_
    refine zS 83 h95 ?_
    refine zR 1 ?_
    refine ops_new (fun b => .slice (some ⟨b, 0, none⟩) 2 2) (.cells [(.string (ByteArray.mk #[97])), (.string (ByteArray.mk #[98]))].toArray 9 (0, 0)) hs91 (by kernel_rfl) (fun b98 w96 hs97 => ?_)
    have hs99 : St B w [] w96 [kStr.row (some ⟨b98, 0, none⟩) 2 ([(ByteArray.mk #[97]), (ByteArray.mk #[98])]), viewA (ptr b20) (fmtW 1 (2 + 0 % 20) (2 + 0 % 60)) ([]), kStr.row a60 c61 r62.1, kStr.row a52 c53 r54.1, kStr.row a44 c45 r46.1, kStr.row a36 c37 r38.1, kStr.row a28 c29 r30.1, kU64.row a15 c16 (fmtW 1 (2 + 0 % 20) (2 + 0 % 60)), zb b10 24 [(zi 1), (zi (2 + 0 % 20)), (zi (2 + 0 % 60))]] := St.kblk kStr [(ByteArray.mk #[97]), (ByteArray.mk #[98])] hs97 rfl rfl (by simp only [List.length_cons, List.length_nil]; decide)
    obtain ⟨r100, h101, hm⟩ := bind_some hm
    refine zC00 hs99 (rsame16_walk (xs := r38.1) (ys := [(ByteArray.mk #[97]), (ByteArray.mk #[98])]) (xc := c37) (yc := 2) (hx := (St.kcells kStr hs99 5 rfl)) (hy := (St.kcells kStr hs99 0 rfl)) (hm := h101) B _) fun w102 hs104 => ?_
    refine zR 2 ?_
    rcases Bool.eq_false_or_eq_true r100 with h105 | h105
    ·
     have h105p : r100 = true := h105
     replace hm := ite_yes hm h105p
     refine zS 89 h105 ?_
     refine zS 87 h105 ?_
     refine zS 88 h105 ?_
     refine zR 4 ?_
     rcases Bool.eq_false_or_eq_true (decide (r46.2 = 13)) with h106 | h106
     ·
      obtain ⟨h106p, hm⟩ := iY hm h106
      refine zS 93 h106 ?_
      refine zS 91 h106 ?_
      refine zS 92 h106 ?_
      refine zR 4 ?_
      rcases Bool.eq_false_or_eq_true (decide (r54.2 = 13)) with h107 | h107
      ·
       obtain ⟨h107p, hm⟩ := iY hm h107
       refine zS 97 h107 ?_
       refine zS 95 h107 ?_
       refine zS 96 h107 ?_
       refine zR 4 ?_
       rcases Bool.eq_false_or_eq_true (decide (r62.2 = 13)) with h108 | h108
       ·
        obtain ⟨h108p, hm⟩ := iY hm h108
        refine zS 101 h108 ?_
        refine zS 99 h108 ?_
        refine zS 100 h108 ?_
        refine zR 4 ?_
        rcases Bool.eq_false_or_eq_true (decide (r68.2 = 0)) with h109 | h109
        ·
         obtain ⟨h109p, hm⟩ := iY hm h109
         refine zS 105 h109 ?_
         refine zS 103 h109 ?_
         refine zS 104 h109 ?_
         refine zR 4 ?_
         rcases Bool.eq_false_or_eq_true (decide (r68.1 = 1)) with h110 | h110
         ·
          obtain ⟨h110p, hm⟩ := iY hm h110
          refine zS 109 h110 ?_
          refine zS 107 h110 ?_
          refine zS 108 h110 ?_
          refine zR 4 ?_
          rcases Bool.eq_false_or_eq_true (decide (r75.2 = 6)) with h111 | h111
          ·
           obtain ⟨h111p, hm⟩ := iY hm h111
           refine zS 113 h111 ?_
           refine zS 111 h111 ?_
           refine zS 112 h111 ?_
           refine zR 4 ?_
           rcases Bool.eq_false_or_eq_true (decide (r81.2.2 = 0)) with h112 | h112
           ·
            obtain ⟨h112p, hm⟩ := iY hm h112
            refine zS 117 h112 ?_
            refine zS 115 h112 ?_
            refine zS 116 h112 ?_
            refine zR 4 ?_
            rcases Bool.eq_false_or_eq_true (decide (r81.1 = 1)) with h113 | h113
            ·
             obtain ⟨h113p, hm⟩ := iY hm h113
             refine zS 121 h113 ?_
             refine zS 119 h113 ?_
             refine zS 120 h113 ?_
             refine zR 4 ?_
             rcases Bool.eq_false_or_eq_true (r81.2.1.toList == (ByteArray.mk #[97]).toList) with h114 | h114
             ·
              have h114p : (r81.2.1.toList == (ByteArray.mk #[97]).toList) = true := h114
              replace hm := ite_yes hm h114p
              refine zS 125 h114 ?_
              refine zS 123 h114 ?_
              refine zS 124 h114 ?_
              refine zR 4 ?_
              rcases Bool.eq_false_or_eq_true (decide (r87.2 = 0)) with h115 | h115
              ·
               obtain ⟨h115p, hm⟩ := iY hm h115
               refine zS 129 h115 ?_
               refine zS 127 h115 ?_
               refine zS 128 h115 ?_
               refine zE 3 (hK92 _ _ ?_)
               refine W.ret ?_
               obtain rfl := some_inj hm
               have hs116 := St.tk0 hs104
               refine ret_of (.bool r87.1) (by kernel_rfl) ⟨_, ⟨rfl, rfl⟩, hs116⟩
              obtain ⟨h115p, hm⟩ := iN hm h115
              refine zS 129 h115 ?_
              refine zS 127 h115 ?_
              refine zS 128 h115 ?_
              refine zE 3 (hK92 _ _ ?_)
              refine W.ret ?_
              obtain rfl := some_inj hm
              have hs117 := St.tk0 hs104
              refine ret_of (.bool false) (by kernel_rfl) ⟨_, ⟨rfl, rfl⟩, hs117⟩
             have h114p : ¬ ((r81.2.1.toList == (ByteArray.mk #[97]).toList) = true) := ne_true_of_eq_false h114
             replace hm := ite_no hm h114p
             refine zS 125 h114 ?_
             refine zS 123 h114 ?_
             refine zS 124 h114 ?_
             refine zE 7 (hK92 _ _ ?_)
             refine W.ret ?_
             obtain rfl := some_inj hm
             have hs118 := St.tk0 hs104
             refine ret_of (.bool false) (by kernel_rfl) ⟨_, ⟨rfl, rfl⟩, hs118⟩
            obtain ⟨h113p, hm⟩ := iN hm h113
            refine zS 121 h113 ?_
            refine zS 119 h113 ?_
            refine zS 120 h113 ?_
            refine zE 11 (hK92 _ _ ?_)
            refine W.ret ?_
            obtain rfl := some_inj hm
            have hs119 := St.tk0 hs104
            refine ret_of (.bool false) (by kernel_rfl) ⟨_, ⟨rfl, rfl⟩, hs119⟩
           obtain ⟨h112p, hm⟩ := iN hm h112
           refine zS 117 h112 ?_
           refine zS 115 h112 ?_
           refine zS 116 h112 ?_
           refine zE 15 (hK92 _ _ ?_)
           refine W.ret ?_
           obtain rfl := some_inj hm
           have hs120 := St.tk0 hs104
           refine ret_of (.bool false) (by kernel_rfl) ⟨_, ⟨rfl, rfl⟩, hs120⟩
          obtain ⟨h111p, hm⟩ := iN hm h111
          refine zS 113 h111 ?_
          refine zS 111 h111 ?_
          refine zS 112 h111 ?_
          refine zE 19 (hK92 _ _ ?_)
          refine W.ret ?_
          obtain rfl := some_inj hm
          have hs121 := St.tk0 hs104
          refine ret_of (.bool false) (by kernel_rfl) ⟨_, ⟨rfl, rfl⟩, hs121⟩
         obtain ⟨h110p, hm⟩ := iN hm h110
         refine zS 109 h110 ?_
         refine zS 107 h110 ?_
         refine zS 108 h110 ?_
         refine zE 23 (hK92 _ _ ?_)
         refine W.ret ?_
         obtain rfl := some_inj hm
         have hs122 := St.tk0 hs104
         refine ret_of (.bool false) (by kernel_rfl) ⟨_, ⟨rfl, rfl⟩, hs122⟩
        obtain ⟨h109p, hm⟩ := iN hm h109
        refine zS 105 h109 ?_
        refine zS 103 h109 ?_
        refine zS 104 h109 ?_
        refine zE 27 (hK92 _ _ ?_)
        refine W.ret ?_
        obtain rfl := some_inj hm
        have hs123 := St.tk0 hs104
        refine ret_of (.bool false) (by kernel_rfl) ⟨_, ⟨rfl, rfl⟩, hs123⟩
       obtain ⟨h108p, hm⟩ := iN hm h108
       refine zS 101 h108 ?_
       refine zS 99 h108 ?_
       refine zS 100 h108 ?_
       refine zE 31 (hK92 _ _ ?_)
       refine W.ret ?_
       obtain rfl := some_inj hm
       have hs124 := St.tk0 hs104
       refine ret_of (.bool false) (by kernel_rfl) ⟨_, ⟨rfl, rfl⟩, hs124⟩
      obtain ⟨h107p, hm⟩ := iN hm h107
      refine zS 97 h107 ?_
      refine zS 95 h107 ?_
      refine zS 96 h107 ?_
      refine zE 35 (hK92 _ _ ?_)
      refine W.ret ?_
      obtain rfl := some_inj hm
      have hs125 := St.tk0 hs104
      refine ret_of (.bool false) (by kernel_rfl) ⟨_, ⟨rfl, rfl⟩, hs125⟩
     obtain ⟨h106p, hm⟩ := iN hm h106
     refine zS 93 h106 ?_
     refine zS 91 h106 ?_
     refine zS 92 h106 ?_
     refine zE 39 (hK92 _ _ ?_)
     refine W.ret ?_
     obtain rfl := some_inj hm
     have hs126 := St.tk0 hs104
     refine ret_of (.bool false) (by kernel_rfl) ⟨_, ⟨rfl, rfl⟩, hs126⟩
    have h105p : ¬ (r100 = true) := ne_true_of_eq_false h105
    replace hm := ite_no hm h105p
    refine zS 89 h105 ?_
    refine zS 87 h105 ?_
    refine zS 88 h105 ?_
    refine zE 43 (hK92 _ _ ?_)
    refine W.ret ?_
    obtain rfl := some_inj hm
    have hs127 := St.tk0 hs104
    refine ret_of (.bool false) (by kernel_rfl) ⟨_, ⟨rfl, rfl⟩, hs127⟩
   obtain ⟨h95p, hm⟩ := iN hm h95
   refine zS 84 h95 ?_
   refine zS 82 h95 ?_
   refine zS 83 h95 ?_
   refine zE 48 (hK92 _ _ ?_)
   refine W.ret ?_
   obtain rfl := some_inj hm
   have hs128 := St.tk0 hs91
   refine ret_of (.bool false) (by kernel_rfl) ⟨_, ⟨rfl, rfl⟩, hs128⟩
  obtain ⟨h94p, hm⟩ := iN hm h94
  refine zS 80 h94 ?_
  refine zS 78 h94 ?_
  refine zS 79 h94 ?_
  refine zE 52 (hK92 _ _ ?_)
  refine W.ret ?_
  obtain rfl := some_inj hm
  have hs129 := St.tk0 hs91
  refine ret_of (.bool false) (by kernel_rfl) ⟨_, ⟨rfl, rfl⟩, hs129⟩
 obtain ⟨h93p, hm⟩ := iN hm h93
 refine zS 75 h93 ?_
 refine zS 74 h93 ?_
 refine zE 57 (hK92 _ _ ?_)
 refine W.ret ?_
 obtain rfl := some_inj hm
 have hs130 := St.tk0 hs91
 refine ret_of (.bool false) (by kernel_rfl) ⟨_, ⟨rfl, rfl⟩, hs130⟩
end Go.Proofs.YtmmclabkkigiaaaGreat

namespace Go.Proofs.YtmmclabkkigiaaaGreat
open Go Go.RowKit
set_option maxRecDepth 100000 in
set_option maxHeartbeats 4000000 in
theorem works16_eq : works16_M = some true := by decide +kernel
theorem works16_stop : Ok (· = true) ((works16_M).bind fun r => some r) := by
  rw [works16_eq]
  exact Ok.some rfl
end Go.Proofs.YtmmclabkkigiaaaGreat

namespace Go.Proofs.YtmmclabkkigiaaaGreat
open Go Go.RowKit
structure TMk where
  c0 : Int
  c1 : ByteArray
  c2 : Int
def dMk : TMk := (⟨0, .empty, 0⟩ : TMk)
def kMk : Kind TMk := ⟨74, 3, fun x => [.int .u8 x.c0, .string x.c1, .int .u8 x.c2], by decide, fun _ => rfl, fun _ => rfl⟩
def good_Mk (x : TMk) : Prop := (0 ≤ x.c0 ∧ x.c0 ≤ 255) ∧ (0 ≤ x.c2 ∧ x.c2 ≤ 255)
structure TSt16 where
  c0 : Int
  c1 : ByteArray
  c2 : Int
  c3 : Int
def dSt16 : TSt16 := (⟨0, .empty, 0, 0⟩ : TSt16)
def kSt16 : Kind TSt16 := ⟨30, 4, fun x => [.int .u8 x.c0, .string x.c1, .int .i64 x.c2, .int .i64 x.c3], by decide, fun _ => rfl, fun _ => rfl⟩
def good_St16 (x : TSt16) : Prop := (0 ≤ x.c0 ∧ x.c0 ≤ 255) ∧ (-9223372036854775808 ≤ x.c2 ∧ x.c2 ≤ 9223372036854775807) ∧ (-9223372036854775808 ≤ x.c3 ∧ x.c3 ≤ 9223372036854775807)
structure TTn where
  c0 : Int
  c1 : Int
def dTn : TTn := (⟨0, 0⟩ : TTn)
def kTn : Kind TTn := ⟨36, 2, fun x => [.int .u16 x.c0, .int .u64 x.c1], by decide, fun _ => rfl, fun _ => rfl⟩
def good_Tn (x : TTn) : Prop := (0 ≤ x.c0 ∧ x.c0 ≤ 65535) ∧ (0 ≤ x.c1 ∧ x.c1 ≤ 18446744073709551615)
end Go.Proofs.YtmmclabkkigiaaaGreat

set_option maxRecDepth 20000
set_option maxHeartbeats 8000000
namespace Go.Proofs.YtmmclabkkigiaaaGreat
open Go Go.RowKit
def tree_J1 (q37 : List Int) (n38 : Nat) : Option (List Int) :=
 need (n38 = q37.length) <|
some q37
def tree_J3 (k60 : ((List Int) × Nat × (List Int) × Nat × Int × Int) → Option (List Int)) (q52 : List Int) (p58 : Int) (p59 : Int) (r105 : Int × List (Int × Int)) (q126 : List Int) (n127 : Nat) (p128 : Int) (p129 : Int) : Option (List Int) :=
 (some (iputM q52 r105.2 1 (2 + (19 : Int) % 20) (2 + 59 % 60) p58 ⟨p128, 1, 0, 0, 0, 0, 0, 0, 0, p129⟩)).bind fun r133 =>
need (0 ≤ (placeOf 6 1 (2 + (19 : Int) % 20) (2 + 59 % 60) 0) ∧ (placeOf 6 1 (2 + (19 : Int) % 20) (2 + 59 % 60) 0) < (((vflat q52 r133.2).length) : Int)) <|
need (0 ≤ p58 ∧ p58 ≤ 18446744073709551615) <|
need (0 ≤ p58) <|
need (0 ≤ (placeOf 6 1 (2 + (19 : Int) % 20) (2 + 59 % 60) 0) ∧ (placeOf 6 1 (2 + (19 : Int) % 20) (2 + 59 % 60) 0) < (((vflat q52 r133.2).length) : Int)) <|
need (-9223372036854775808 ≤ (p58 + 1) ∧ (p58 + 1) ≤ 9223372036854775807) <|
need (-9223372036854775808 ≤ (p59 + 1) ∧ (p59 + 1) ≤ 9223372036854775807) <|
k60 (((vflat q52 r133.2).set ((placeOf 6 1 (2 + (19 : Int) % 20) (2 + 59 % 60) 0).toNat) (bits .or .u64 ((vflat q52 r133.2).getD ((placeOf 6 1 (2 + (19 : Int) % 20) (2 + 59 % 60) 0).toNat) 0) (shlK .u64 1 p58))), (vflat q52 r133.2).length, q126, n127, (p58 + 1), (p59 + 1))
def tree_B0 (ms : List TMk) (k60 : ((List Int) × Nat × (List Int) × Nat × Int × Int) → Option (List Int)) (q52 : List Int) (n53 : Nat) (q56 : List Int) (n57 : Nat) (p58 : Int) (p59 : Int) : Option (List Int) :=
 if p59 < (ms.length : Int) then (if p58 < (2 + (19 : Int) % 20) then (need (n53 = q52.length) <|
need (q52.length ≤ 17592186044415) <|
need (0 ≤ p59 ∧ p59 < (ms.length : Int)) <|
need (-9223372036854775808 ≤ ((ms.getD p59.toNat dMk).c0) ∧ ((ms.getD p59.toNat dMk).c0) ≤ 9223372036854775807) <|
need (¬ ((n57 : Int) = 0)) <|
need (0 ≤ (((ms.getD p59.toNat dMk).c0).tmod (n57 : Int)) ∧ (((ms.getD p59.toNat dMk).c0).tmod (n57 : Int)) < (n57 : Int)) <|
need ((((ms.getD p59.toNat dMk).c0).tmod (n57 : Int)).toNat < q56.length) <|
(some (q56.getD ((((ms.getD p59.toNat dMk).c0).tmod (n57 : Int)).toNat) 0)).bind fun r89 =>
need (0 ≤ p59 ∧ p59 < (ms.length : Int)) <|
need (0 ≤ p59 ∧ p59 < (ms.length : Int)) <|
need ((0 : Int) ≤ 0 ∧ (0 : Int) ≤ (mn (((ms.getD p59.toNat dMk).c1).size : Int) 50) ∧ (mn (((ms.getD p59.toNat dMk).c1).size : Int) 50) ≤ (((ms.getD p59.toNat dMk).c1).size : Int)) <|
(rAdd15_M q52 ([]) 1 (2 + (19 : Int) % 20) (2 + 59 % 60) r89 (((ms.getD p59.toNat dMk).c1).extract 0 ((mn (((ms.getD p59.toNat dMk).c1).size : Int) 50).toNat)) p58).bind fun r105 =>
if r105.1 = 0 then (need (0 ≤ p59 ∧ p59 < (ms.length : Int)) <|
if ((ms.getD p59.toNat dMk).c2).tmod 3 = 0 then (tree_J3 k60 q52 p58 p59 r105 q56 n57 1 0) else (need (0 ≤ r89 ∧ r89 ≤ 18446744073709551615) <|
need (q56.length + 1 ≤ 1000000000) <|
need (n57 = q56.length) <|
tree_J3 k60 q52 p58 p59 r105 (q56 ++ [p58]) ((q56 ++ [p58]).length) 2 r89)) else (need (-9223372036854775808 ≤ (p59 + 1) ∧ (p59 + 1) ≤ 9223372036854775807) <|
k60 (q52, n53, q56, n57, p58, (p59 + 1)))) else (tree_J1 q52 n53)) else (tree_J1 q52 n53)
def tree_M (ms : List TMk) : Option (List Int) :=
 need ((0 : Int) ≤ 19 ∧ (19 : Int) ≤ 255) <|
need ((0 : Int) ≤ 59 ∧ (59 : Int) ≤ 255) <|
iter (fun k_ s_ => tree_B0 ms k_ s_.1 s_.2.1 s_.2.2.1 s_.2.2.2.1 s_.2.2.2.2.1 s_.2.2.2.2.2) FUEL ((fmtW 1 (2 + (19 : Int) % 20) (2 + 59 % 60)), (fmtW 1 (2 + (19 : Int) % 20) (2 + 59 % 60)).length, [1], 1, 2, 0)
theorem tree_walk {ms : List TMk} {ma : Option Addr} {mc : Nat} {r : List Int} (B : Nat) (w : World) (hmk : CellsAt ma (kMk.cells ms) w) (hm : tree_M ms = some r) : Spec Tryz.prog 6 #[(.slice ma ms.length mc)] B w [] (fun v H' => ∃ a' c', v = .tuple #[(.agg #[(zi 1), (zi (2 + (19 : Int) % 20)), (zi (2 + (59 : Int) % 60))]), .slice a' r.length c'] ∧ H' = [kU64.row a' c' r]) := by
 refine spec_Q Tryz.func6 rfl fun hs => ?_
 unfold tree_M at hm
 refine W.sr fun K1 hK1 => ?_
 refine zN [(zi 0), (zi 0), (zi 0)] 24 hs fun b4 w2 hs3 => ?_
 refine zE 1 (hK1 _ _ ?_)
 refine W.sr fun K5 hK5 => ?_
 obtain ⟨h6, hm⟩ := need_some hm
 obtain ⟨h7, hm⟩ := need_some hm
 refine zC00 hs3 (small_spec (x_ := (19 : Int)) (y_ := 59) (hx := h6) (hy := h7) B _) fun w8 hs10 => ?_
 refine zN [(zi 0), (zi 0), (zi 0)] 24 hs10 fun b13 w11 hs12 => ?_
 refine zT 0 [(zi 1), (zi (2 + (19 : Int) % 20)), (zi (2 + 59 % 60))] [(zi 1), (zi (2 + (19 : Int) % 20)), (zi (2 + 59 % 60))] hs12 fun w14 hs16 => ?_
 refine zD (hK5 _ _ ?_)
 refine W.sr fun K17 hK17 => ?_
 refine zG ⟨b13, 0, none⟩ [(zi 1), (zi (2 + (19 : Int) % 20)), (zi (2 + 59 % 60))] (cells_sub (hs16.heapAt 0 rfl) rfl) ?_
 refine zN [(zi 0), (zi 0), (zi 0)] 37 hs16 fun b20 w18 hs19 => ?_
 refine zT 0 [(zi 1), (zi (2 + (19 : Int) % 20)), (zi (2 + 59 % 60))] [(zi 1), (zi (2 + (19 : Int) % 20)), (zi (2 + 59 % 60))] hs19 fun w21 hs23 => ?_
 refine zD (hK17 _ _ ?_)
 refine W.sr fun K24 hK24 => ?_
 refine zG ⟨b20, 0, none⟩ [(zi 1), (zi (2 + (19 : Int) % 20)), (zi (2 + 59 % 60))] (cells_sub (hs23.heapAt 0 rfl) rfl) ?_
 refine ops_call0 hs23 (by kernel_rfl) (format_spec (gw := 1) (gi := (2 + (19 : Int) % 20)) (gb := (2 + 59 % 60)) B _) ?_
 rintro _ _ w27 ⟨a25, c26, rfl, rfl⟩ hs28
 have hs29 := St.ap1 hs28
 refine zE 1 (hK24 _ _ ?_)
 refine W.sr fun K30 hK30 => ?_
 refine ops_new (fun b => .slice (some ⟨b, 0, none⟩) 1 1) (.cells [(zi 1)].toArray 3 (0, 0)) hs29 (by kernel_rfl) (fun b33 w31 hs32 => ?_)
 refine zE 1 (hK30 _ _ ?_)
 refine W.sr fun K34 hK34 => ?_
 refine zE 1 (hK34 _ _ ?_)
 refine W.seq_join (fun s_ w_ => ∃ (q37 : List Int) (n38 : Nat) (m35 : Option Addr) (m36 : Nat), (∃ us, s_ = slots 100 [(2, (zp b4)), (4, (zp b13)), (6, (.slice m35 n38 m36))] us) ∧ St B w [] w_ [zb b4 24 [(zi 0), (zi 0), (zi 0)], zb b13 24 [(zi 1), (zi (2 + (19 : Int) % 20)), (zi (2 + 59 % 60))], kU64.row m35 m36 q37, zb b20 37 [(zi 1), (zi (2 + (19 : Int) % 20)), (zi (2 + 59 % 60))]] ∧ tree_J1 q37 n38 = some r) ?_ ?_
 ·
  rintro _ w39 ⟨q37, n38, m35, m36, ⟨us, rfl⟩, hs40, hm⟩
  unfold tree_J1 at hm
  refine W.sr fun K41 hK41 => ?_
  refine zG ⟨b13, 0, none⟩ [(zi 1), (zi (2 + (19 : Int) % 20)), (zi (2 + 59 % 60))] (cells_sub (hs40.heapAt 1 rfl) rfl) ?_
  refine zR 1 ?_
  refine zT 0 [(zi 1), (zi (2 + (19 : Int) % 20)), (zi (2 + 59 % 60))] [(zi 1), (zi (2 + (19 : Int) % 20)), (zi (2 + 59 % 60))] hs40 fun w42 hs44 => ?_
  refine zE 1 (hK41 _ _ ?_)
  refine W.ret ?_
  obtain ⟨h45, hm⟩ := need_some hm
  obtain rfl := some_inj hm
  have hs46 := St.f2 hs44
  have hs47 := St.tk1 hs46
  refine ret_of (.tuple #[(.agg #[(zi 1), (zi (2 + (19 : Int) % 20)), (zi (2 + 59 % 60))]), (.slice m35 n38 m36)]) (resS_of (by kernel_rfl) (resD_two rfl (.agg (ad := ⟨b4, 0, none⟩) (cs := [(zi 1), (zi (2 + (19 : Int) % 20)), (zi (2 + 59 % 60))]) (by kernel_rfl) (by kernel_rfl) (cells_sub (hs44.heapAt 0 rfl) rfl)) (.tmp (by kernel_rfl)))) ⟨_, ⟨m35, m36, (by rw [h45]), rfl⟩, hs47⟩
 refine W.sr fun K48 hK48 => ?_
 refine zE 1 (hK48 _ _ ?_)
 refine W.block ?_
 have hs49 : St B w [] w31 [kInt.row (some ⟨b33, 0, none⟩) 1 ([1]), kU64.row a25 c26 (fmtW 1 (2 + (19 : Int) % 20) (2 + 59 % 60)), zb b20 37 [(zi 1), (zi (2 + (19 : Int) % 20)), (zi (2 + 59 % 60))], zb b13 24 [(zi 1), (zi (2 + (19 : Int) % 20)), (zi (2 + 59 % 60))], zb b4 24 [(zi 0), (zi 0), (zi 0)]] := St.kblk kInt [1] hs32 rfl rfl (by simp only [List.length_cons, List.length_nil]; decide)
 have hs64 := St.f1 hs49
 have hs65 := St.f2 hs64
 have hs66 := St.f3 hs65
 have hs67 := St.f4 hs66
 refine W.loop_iter (G := (List Int) × Nat × (List Int) × Nat × Int × Int × (Option Addr) × Nat × (Option Addr) × Nat) (σ := (List Int) × Nat × (List Int) × Nat × Int × Int) (fun | (q52, n53, q56, n57, p58, p59, m50, m51, m54, m55) => (q52, n53, q56, n57, p58, p59)) (fun | (q52, n53, q56, n57, p58, p59, m50, m51, m54, m55), s_, w_ => (∃ us, s_ = slots 100 [(0, (.slice ma ms.length mc)), (2, (zp b4)), (4, (zp b13)), (5, (zp b20)), (6, (.slice m50 n53 m51)), (7, (.slice m54 n57 m55)), (8, (zi p58)), (9, (zi p59))] us) ∧ St B w [] w_ [zb b4 24 [(zi 0), (zi 0), (zi 0)], zb b13 24 [(zi 1), (zi (2 + (19 : Int) % 20)), (zi (2 + 59 % 60))], zb b20 37 [(zi 1), (zi (2 + (19 : Int) % 20)), (zi (2 + 59 % 60))], kU64.row m50 m51 q52, kInt.row m54 m55 q56]) ((fmtW 1 (2 + (19 : Int) % 20) (2 + 59 % 60)), (fmtW 1 (2 + (19 : Int) % 20) (2 + 59 % 60)).length, [1], 1, 2, 0, a25, c26, (some ⟨b33, 0, none⟩), 1) ⟨slots_intro _ (by kernel_rfl), hs67⟩ hm ?_
 rintro k60 ih61 ⟨q52, n53, q56, n57, p58, p59, m50, m51, m54, m55⟩ _ w62 ⟨⟨us, rfl⟩, hs63⟩ hm
 replace hm : tree_B0 ms k60 q52 n53 q56 n57 p58 p59 = some r := hm
 unfold tree_B0 at hm
 refine W.seq fun K68 hK68 => ?_
 refine W.sr fun K69 hK69 => ?_
 refine zR 5 ?_
 rcases Bool.eq_false_or_eq_true (decide (p59 < (ms.length : Int))) with h70 | h70
 ·
  obtain ⟨h70p, hm⟩ := iY hm h70
  refine zS 22 h70 ?_
  refine zS 21 h70 ?_
  refine zR 2 ?_
  refine zL ⟨b13, 1, none⟩ (zi (2 + (19 : Int) % 20)) (hs63.cellAt 1 rfl rfl) ?_
  refine zE 2 (hK69 _ _ ?_)
  refine W.cond (decide (p58 < (2 + (19 : Int) % 20))) (by kernel_rfl) (fun h71 => ?_) (fun h71 => ?_)
  ·
   obtain ⟨h71p, hm⟩ := iY hm h71
   refine W.skip ?_
   refine hK68 _ _ ?_
   refine W.seq fun K72 hK72 => ?_
   refine W.block ?_
   refine W.sr fun K73 hK73 => ?_
   refine zR 1 ?_
   obtain ⟨h74, hm⟩ := need_some hm
   refine ops_set 30 (v := (.slice m50 q52.length m51)) (Eq.trans (by kernel_rfl) (congrArg (fun n_ => Value.slice m50 n_ m51) h74)) ?_
   obtain ⟨h76, hm⟩ := need_some hm
   refine ops_call0 hs63 (by kernel_rfl) (rnew_spec (hc := (St.kcells kU64 hs63 3 rfl)) (hn := (St.capnil kU64 hs63 3 rfl)) (hsz := h76) B _) ?_
   rintro _ _ w77 ⟨b75, rfl, rfl⟩ hs78
   have hs79 := St.ap1 hs78
   refine zE 1 (hK73 _ _ ?_)
   refine W.sr fun K80 hK80 => ?_
   refine zR 3 ?_
   obtain ⟨h82, hm⟩ := need_some hm
   have hk81 := lt_toNat h82
   refine ops_R (runs_index (a := ma) (n := ms.length) (z := p59) (size := 3) p59.toNat (nat_of h82.1) hk81 (kMk.addr (hs79.oldCells hmk) hk81) (by kernel_rfl)) ?_
   refine zR 1 ?_
   refine zL ((adr ma (p59.toNat * 3)).add 0) (.int .u8 ((ms.getD p59.toNat dMk).c0)) (kMk.at (hs79.oldCells hmk) hk81 dMk 0 rfl) ?_
   obtain ⟨h83, hm⟩ := need_some hm
   refine zI _ (wrap_i64 h83.1 h83.2) ?_
   refine zR 2 ?_
   obtain ⟨h84, hm⟩ := need_some hm
   refine ops_R (v := .int .i64 (((ms.getD p59.toNat dMk).c0).tmod (n57 : Int))) (runs_rem (k := .i64) (a := (ms.getD p59.toNat dMk).c0) (b := (n57 : Int)) (by kernel_rfl) h84 rfl) ?_
   obtain ⟨h86, hm⟩ := need_some hm
   have hk85 := lt_toNat h86
   obtain ⟨h88, hm⟩ := need_some hm
   have hk87 := h88
   refine ops_R (runs_index (a := m54) (n := n57) (z := (((ms.getD p59.toNat dMk).c0).tmod (n57 : Int))) (size := 1) ((((ms.getD p59.toNat dMk).c0).tmod (n57 : Int)).toNat) (nat_of h86.1) hk85 (kInt.addr (St.kcells kInt hs79 5 rfl) hk87) (by kernel_rfl)) ?_
   refine zL ((adr m54 (((((ms.getD p59.toNat dMk).c0).tmod (n57 : Int)).toNat) * 1)).add 0) (zi (q56.getD ((((ms.getD p59.toNat dMk).c0).tmod (n57 : Int)).toNat) 0)) (kInt.at (St.kcells kInt hs79 5 rfl) hk87 0 0 rfl) ?_
   refine zR 1 ?_
   obtain ⟨r89, h90, hm⟩ := bind_some hm
   replace h90 := some_inj h90
   refine ops_set 11 (v := .int .i64 r89) (Eq.trans (by kernel_rfl) (congrArg (Value.int .i64) h90)) ?_
   refine zD (hK80 _ _ ?_)
   refine W.seq fun K91 hK91 => ?_
   refine W.seq fun K92 hK92 => ?_
   have hs93 := hs79.drew
   have hs94 := St.f5 hs93
   have hs95 := St.f5 hs94
   have hs96 := St.f5 hs95
   have hs97 := St.f5 hs96
   have hs98 := St.f5 hs97
   have hs99 := St.tk5 hs98
   refine W.regionD [(0, 0), (0, 0), (0, 0), (0, 0), (0, 0), (24, 24), (32, 32), (64, 64), (0, 0), (0, 0), (768, 768), (1024, 1024), (2048, 2048), (4096, 4096), (8192, 8192), (16512, 16512), (0, 0), (98304, 98304), (131079, 131079), (262144, 262144)] (fun w_ => St B w [] w_ [zb b4 24 [(zi 0), (zi 0), (zi 0)], zb b13 24 [(zi 1), (zi (2 + (19 : Int) % 20)), (zi (2 + 59 % 60))], zb b20 37 [(zi 1), (zi (2 + (19 : Int) % 20)), (zi (2 + 59 % 60))], kU64.row m50 m51 q52, kInt.row m54 m55 q56]) (by kernel_rfl) hs99 ?_
   refine zA (zp b75) 0 hs99 ?_
   refine any_R 1 (by kernel_rfl) (fun _ hS_ => runs_loadAgg (ad := ⟨b20, 0, none⟩) (cs := [(zi 1), (zi (2 + (19 : Int) % 20)), (zi (2 + 59 % 60))]) (by kernel_rfl) (cells_sub (hS_.heapAt 2 rfl) rfl)) hs99 ?_
   refine zA (zi r89) 2 hs99 ?_
   refine zA (.slice ma ms.length mc) 3 hs99 ?_
   refine zA (zi p59) 4 hs99 ?_
   obtain ⟨h101, hm⟩ := need_some hm
   have hk100 := lt_toNat h101
   refine any_R 5 (by kernel_rfl) (fun _ hS_ => runs_index (a := ma) (n := ms.length) (z := p59) (size := 3) p59.toNat (nat_of h101.1) hk100 (kMk.addr (hs93.oldCells hmk) hk100) (by kernel_rfl)) hs99 ?_
   refine zA (.pointer (some ((adr ma (p59.toNat * 3)).add 1))) 6 hs99 ?_
   refine zB 7 ((adr ma (p59.toNat * 3)).add 1) (.string ((ms.getD p59.toNat dMk).c1)) (fun _ hS_ => (kMk.at (hS_.oldCells hmk) hk100 dMk 1 rfl)) hs99 ?_
   refine zA (.slice ma ms.length mc) 8 hs99 ?_
   refine zA (zi p59) 9 hs99 ?_
   obtain ⟨h103, hm⟩ := need_some hm
   have hk102 := lt_toNat h103
   refine any_R 10 (by kernel_rfl) (fun _ hS_ => runs_index (a := ma) (n := ms.length) (z := p59) (size := 3) p59.toNat (nat_of h103.1) hk102 (kMk.addr (hs93.oldCells hmk) hk102) (by kernel_rfl)) hs99 ?_
   refine zA (.pointer (some ((adr ma (p59.toNat * 3)).add 1))) 11 hs99 ?_
   refine zB 12 ((adr ma (p59.toNat * 3)).add 1) (.string ((ms.getD p59.toNat dMk).c1)) (fun _ hS_ => (kMk.at (hS_.oldCells hmk) hk102 dMk 1 rfl)) hs99 ?_
   refine zA (zi (((ms.getD p59.toNat dMk).c1).size : Int)) 13 hs99 ?_
   refine zA (zi (mn (((ms.getD p59.toNat dMk).c1).size : Int) 50)) 14 hs99 ?_
   obtain ⟨h104, hm⟩ := need_some hm
   refine any_R (v := (.string (((ms.getD p59.toNat dMk).c1).extract 0 ((mn (((ms.getD p59.toNat dMk).c1).size : Int) 50).toNat)))) 15 (by kernel_rfl) (fun _ hS_ => runs_strSlice (b := (ms.getD p59.toNat dMk).c1) (lo := none) (hi := (some (mn (((ms.getD p59.toNat dMk).c1).size : Int) 50))) 0 ((mn (((ms.getD p59.toNat dMk).c1).size : Int) 50).toNat) (.inr ⟨rfl, rfl⟩) (.inl (congrArg some (nat_of (Int.le_trans h104.1 h104.2.1)))) (by omega) (by omega) (by kernel_rfl)) hs99 ?_
   refine zA (zi p58) 16 hs99 ?_
   refine zA (.agg #[(.string (((ms.getD p59.toNat dMk).c1).extract 0 ((mn (((ms.getD p59.toNat dMk).c1).size : Int) 50).toNat))), (zi p58)]) 17 hs99 ?_
   refine any_step 18 (by kernel_rfl) (by kernel_rfl) ?_
   obtain ⟨r105, h106, hm⟩ := bind_some hm
   refine zC11 hs93 (rAdd15_walk (vb := b75) (gw := 1) (gi := (2 + (19 : Int) % 20)) (gb := (2 + 59 % 60)) (n_ := r89) (xn_ := (((ms.getD p59.toNat dMk).c1).extract 0 ((mn (((ms.getD p59.toNat dMk).c1).size : Int) 50).toNat))) (xi_ := p58) (img := q52) (l := []) (hm := h106) B _) fun w107 hs109 => ?_
   have hs110 := St.f5 hs109
   have hs111 := St.f5 hs110
   have hs112 := St.f5 hs111
   have hs113 := St.f5 hs112
   have hs114 := St.f5 hs113
   have hs115 := St.tk5 hs114
   refine ops_done (by kernel_rfl) ⟨hs115, ?_⟩
   refine zA (.bool (!decide (r105.1 = 0))) 19 hs115 ?_
   refine any_done (by kernel_rfl) ?_
   refine hK92 _ _ ?_
   refine W.cond (!decide (r105.1 = 0)) (by kernel_rfl) (fun h116 => ?_) (fun h116 => ?_)
   rotate_left
   ·
    have h116p : r105.1 = 0 := of_decide_eq_true (bnot_false h116)
    replace hm := ite_yes hm h116p
    refine W.skip ?_
    refine hK91 _ _ ?_
    refine W.sr fun K117 hK117 => ?_
    refine zR 1 ?_
    refine zN [(zu 0), (zu 0), (zu 0), (zu 0), (zu 0), (zu 0), (zu 0), (zu 0), (zu 0), (zu 0)] 77 hs109 fun b120 w118 hs119 => ?_
    refine zT 0 [(zu 1), (zu 1), (zu 0), (zu 0), (zu 0), (zu 0), (zu 0), (zu 0), (zu 0), (zu 0)] [(zu 1), (zu 1), (zu 0), (zu 0), (zu 0), (zu 0), (zu 0), (zu 0), (zu 0), (zu 0)] hs119 fun w121 hs123 => ?_
    refine zD (hK117 _ _ ?_)
    refine W.seq_join (fun s_ w_ => ∃ (q126 : List Int) (n127 : Nat) (p128 : Int) (p129 : Int) (m124 : Option Addr) (m125 : Nat), (∃ us, s_ = slots 100 [(0, (.slice ma ms.length mc)), (2, (zp b4)), (4, (zp b13)), (5, (zp b20)), (7, (.slice m124 n127 m125)), (8, (zi p58)), (9, (zi p59)), (10, (zp b75)), (12, (zp b120))] us) ∧ St B w [] w_ [zb b4 24 [(zi 0), (zi 0), (zi 0)], zb b13 24 [(zi 1), (zi (2 + (19 : Int) % 20)), (zi (2 + 59 % 60))], zb b20 37 [(zi 1), (zi (2 + (19 : Int) % 20)), (zi (2 + 59 % 60))], kInt.row m124 m125 q126, refA (ptr b75) q52 r105.2, zb b120 77 [(zu p128), (zu 1), (zu 0), (zu 0), (zu 0), (zu 0), (zu 0), (zu 0), (zu 0), (zu p129)], kU64.row m50 m51 q52] ∧ tree_J3 k60 q52 p58 p59 r105 q126 n127 p128 p129 = some r) ?_ ?_
    ·
     rintro _ w130 ⟨q126, n127, p128, p129, m124, m125, ⟨us, rfl⟩, hs131, hm⟩
     unfold tree_J3 at hm
     refine W.sr fun K132 hK132 => ?_
     refine zR 1 ?_
     refine zG ⟨b20, 0, none⟩ [(zi 1), (zi (2 + (19 : Int) % 20)), (zi (2 + 59 % 60))] (cells_sub (hs131.heapAt 2 rfl) rfl) ?_
     refine zR 1 ?_
     refine zG ⟨b120, 0, none⟩ [(zu p128), (zu 1), (zu 0), (zu 0), (zu 0), (zu 0), (zu 0), (zu 0), (zu 0), (zu p129)] (cells_sub (hs131.heapAt 5 rfl) rfl) ?_
     obtain ⟨r133, h134, hm⟩ := bind_some hm
     replace h134 := some_inj h134
     have hs137 := St.f4 hs131
     refine ops_call1 hs137 (by kernel_rfl) (rp_spec (b := b75) (img := q52) (l := r105.2) (gw := 1) (gi := (2 + (19 : Int) % 20)) (gb := (2 + 59 % 60)) (n_ := p58) (x_ := ⟨p128, 1, 0, 0, 0, 0, 0, 0, 0, p129⟩) B _) ?_
     rintro _ _ w138 ⟨hv135, hH136⟩ hs139
     rw [h134] at hv135
     try rw [h134] at hH136
     subst hv135 hH136
     have hs140 := St.ap1 hs139
     refine zD (hK132 _ _ ?_)
     refine W.sr fun K141 hK141 => ?_
     refine zR 1 ?_
     refine ops_call0 hs140 (by kernel_rfl) (rflat_spec (hv := (hs140.entAt 0 rfl refA_at)) B _) ?_
     rintro _ _ w144 ⟨a142, c143, rfl, rfl⟩ hs145
     have hs146 := St.ap1 hs145
     refine zE 1 (hK141 _ _ ?_)
     refine W.sr fun K147 hK147 => ?_
     refine zR 1 ?_
     refine zG ⟨b20, 0, none⟩ [(zi 1), (zi (2 + (19 : Int) % 20)), (zi (2 + 59 % 60))] (cells_sub (hs146.heapAt 4 rfl) rfl) ?_
     refine zC00 hs146 (rmapat_spec (gw := 1) (gi := (2 + (19 : Int) % 20)) (gb := (2 + 59 % 60)) B _) fun w148 hs150 => ?_
     obtain ⟨h152, hm⟩ := need_some hm
     have hk151 := lt_toNat h152
     refine ops_R (runs_index (a := a142) (n := (vflat q52 r133.2).length) (z := (placeOf 6 1 (2 + (19 : Int) % 20) (2 + 59 % 60) 0)) (size := 1) ((placeOf 6 1 (2 + (19 : Int) % 20) (2 + 59 % 60) 0).toNat) (nat_of h152.1) hk151 (kU64.addr (St.kcells kU64 hs150 0 rfl) hk151) (by kernel_rfl)) ?_
     refine zL ((adr a142 (((placeOf 6 1 (2 + (19 : Int) % 20) (2 + 59 % 60) 0).toNat) * 1)).add 0) (zu ((vflat q52 r133.2).getD ((placeOf 6 1 (2 + (19 : Int) % 20) (2 + 59 % 60) 0).toNat) 0)) (kU64.at (St.kcells kU64 hs150 0 rfl) hk151 0 0 rfl) ?_
     refine zR 1 ?_
     obtain ⟨h153, hm⟩ := need_some hm
     refine zI _ (wrap_u64 h153.1 (Int.lt_of_le_of_lt h153.2 (by decide))) ?_
     obtain ⟨h154, hm⟩ := need_some hm
     refine ops_R (v := .int .u64 (shlK .u64 1 p58)) (runs_shift (b := true) (k := .u64) (x := 1) (y := p58) (by kernel_rfl) h154) ?_
     refine zR 1 ?_
     obtain ⟨h156, hm⟩ := need_some hm
     have hk155 := lt_toNat h156
     refine ops_R (runs_index (a := a142) (n := (vflat q52 r133.2).length) (z := (placeOf 6 1 (2 + (19 : Int) % 20) (2 + 59 % 60) 0)) (size := 1) ((placeOf 6 1 (2 + (19 : Int) % 20) (2 + 59 % 60) 0).toNat) (nat_of h156.1) hk155 (kU64.addr (St.kcells kU64 hs150 0 rfl) hk155) (by kernel_rfl)) ?_
     refine ops_storeK kU64 (j := 0) (vs := [(zu (bits .or .u64 ((vflat q52 r133.2).getD ((placeOf 6 1 (2 + (19 : Int) % 20) (2 + 59 % 60) 0).toNat) 0) (shlK .u64 1 p58)))]) 0 (bits .or .u64 ((vflat q52 r133.2).getD ((placeOf 6 1 (2 + (19 : Int) % 20) (2 + 59 % 60) 0).toNat) 0) (shlK .u64 1 p58)) hs150 hk155 (Nat.le_of_ble_eq_true rfl) (by simp) rfl rfl (by kernel_rfl) (fun w157 hs158 => ?_)
     refine zD (hK147 _ _ ?_)
     refine W.region ?_
     refine zR 1 ?_
     obtain ⟨h160, hm⟩ := need_some hm
     refine zI _ (wrap_i64 h160.1 h160.2) ?_
     refine zE 1 ?_
     refine normal_block ?_
     refine hK72 _ _ ?_
     refine W.region ?_
     refine zR 1 ?_
     obtain ⟨h161, hm⟩ := need_some hm
     refine zI _ (wrap_i64 h161.1 h161.2) ?_
     refine zE 1 ?_
     have hs162 := St.f5 hs158
     have hs163 := St.f1 hs162
     have hs164 := St.f5 hs163
     have hs165 := St.f5 hs164
     have hs166 := St.f5 hs165
     have hs167 := St.tk5 hs166
     refine loopAt_next ?_
     exact ih61 (((vflat q52 r133.2).set ((placeOf 6 1 (2 + (19 : Int) % 20) (2 + 59 % 60) 0).toNat) (bits .or .u64 ((vflat q52 r133.2).getD ((placeOf 6 1 (2 + (19 : Int) % 20) (2 + 59 % 60) 0).toNat) 0) (shlK .u64 1 p58))), (vflat q52 r133.2).length, q126, n127, (p58 + 1), (p59 + 1), a142, c143, m124, m125) _ _ ⟨slots_intro _ (by kernel_rfl), hs167⟩ hm
    refine W.sr fun K168 hK168 => ?_
    refine zR 2 ?_
    obtain ⟨h170, hm⟩ := need_some hm
    have hk169 := lt_toNat h170
    refine ops_R (runs_index (a := ma) (n := ms.length) (z := p59) (size := 3) p59.toNat (nat_of h170.1) hk169 (kMk.addr (hs123.oldCells hmk) hk169) (by kernel_rfl)) ?_
    refine zR 1 ?_
    refine zL ((adr ma (p59.toNat * 3)).add 2) (.int .u8 ((ms.getD p59.toNat dMk).c2)) (kMk.at (hs123.oldCells hmk) hk169 dMk 2 rfl) ?_
    refine zE 2 (hK168 _ _ ?_)
    refine W.cond (!decide (((ms.getD p59.toNat dMk).c2).tmod 3 = 0)) (by kernel_rfl) (fun h171 => ?_) (fun h171 => ?_)
    rotate_left
    ·
     have h171p : ((ms.getD p59.toNat dMk).c2).tmod 3 = 0 := of_decide_eq_true (bnot_false h171)
     replace hm := ite_yes hm h171p
     refine W.skip ?_
     have hs172 := St.f5 hs123
     have hs173 := St.f1 hs172
     have hs174 := St.f2 hs173
     have hs175 := St.f6 hs174
     have hs176 := St.f6 hs175
     have hs177 := St.f6 hs176
     have hs178 := St.f6 hs177
     exact ⟨q56, n57, 1, 0, m54, m55, slots_intro _ (by kernel_rfl), hs178, hm⟩
    have h171p : ¬ (((ms.getD p59.toNat dMk).c2).tmod 3 = 0) := of_decide_eq_false (bnot_true h171)
    replace hm := ite_no hm h171p
    refine W.sr fun K179 hK179 => ?_
    refine zR 1 ?_
    obtain ⟨h180, hm⟩ := need_some hm
    refine zI _ (wrap_u64 h180.1 (Int.lt_of_le_of_lt h180.2 (by decide))) ?_
    refine zR 1 ?_
    refine zT 0 [(zu 2), (zu 1), (zu 0), (zu 0), (zu 0), (zu 0), (zu 0), (zu 0), (zu 0), (zu r89)] [(zu 2), (zu 1), (zu 0), (zu 0), (zu 0), (zu 0), (zu 0), (zu 0), (zu 0), (zu r89)] hs123 fun w181 hs183 => ?_
    refine zD (hK179 _ _ ?_)
    refine W.region ?_
    refine zR 2 ?_
    refine ops_new (fun b => .slice (some ⟨b, 0, none⟩) 1 1) (.cells [(zi p58)].toArray 3 (0, 0)) hs183 (by kernel_rfl) (fun b186 w184 hs185 => ?_)
    have hs187 := St.f7 hs185
    obtain ⟨h192, hm⟩ := need_some hm
    obtain ⟨h193, hm⟩ := need_some hm
    refine ops_appendKn kInt (bytes := 8) (a' := (some ⟨b186, 0, none⟩)) (c' := 1) (l := q56) (m := [p58]) hs187 h193 rfl (by kernel_rfl) (by simp) (cells_blk (hs187.heapAt 1 rfl)) (by unfold maxLen; (try simp only [List.length_cons, List.length_nil]); omega) (by (try simp only [List.length_cons, List.length_nil]); omega) (fun a188 c189 w190 hs191 => ?_)
    refine zE 1 ?_
    have hs194 := St.f7 hs191
    have hs195 := St.f3 hs194
    have hs196 := St.f4 hs195
    have hs197 := St.f3 hs196
    have hs198 := St.f7 hs197
    have hs199 := St.f7 hs198
    have hs200 := St.f7 hs199
    have hs201 := St.tk7 hs200
    exact ⟨(q56 ++ [p58]), ((q56 ++ [p58]).length), 2, r89, a188, c189, slots_intro _ (by kernel_rfl), hs201, hm⟩
   have h116p : ¬ (r105.1 = 0) := of_decide_eq_false (bnot_true h116)
   replace hm := ite_no hm h116p
   refine W.exit (exit_seq (exit_here ?_))
   refine hK72 _ _ ?_
   refine W.region ?_
   refine zR 1 ?_
   obtain ⟨h202, hm⟩ := need_some hm
   refine zI _ (wrap_i64 h202.1 h202.2) ?_
   refine zE 1 ?_
   have hs203 := St.f5 hs109
   have hs204 := St.f5 hs203
   have hs205 := St.f5 hs204
   have hs206 := St.f5 hs205
   have hs207 := St.f5 hs206
   have hs208 := St.tk5 hs207
   refine loopAt_next ?_
   exact ih61 (q52, n53, q56, n57, p58, (p59 + 1), m50, m51, m54, m55) _ _ ⟨slots_intro _ (by kernel_rfl), hs208⟩ hm
  obtain ⟨h71p, hm⟩ := iN hm h71
  refine W.exit (exit_seq (exit_seq (exit_here ?_)))
  have hs209 := St.f2 hs63
  have hs210 := St.f3 hs209
  have hs211 := St.f3 hs210
  have hs212 := St.f3 hs211
  have hs213 := St.tk4 hs212
  exact ⟨q52, n53, m50, m51, slots_intro _ (by kernel_rfl), hs213, hm⟩
 obtain ⟨h70p, hm⟩ := iN hm h70
 refine zS 22 h70 ?_
 refine zS 21 h70 ?_
 refine zE 5 (hK69 _ _ ?_)
 refine W.cond_false false (by kernel_rfl) rfl ?_
 refine W.exit (exit_seq (exit_seq (exit_here ?_)))
 have hs214 := St.f2 hs63
 have hs215 := St.f3 hs214
 have hs216 := St.f3 hs215
 have hs217 := St.f3 hs216
 have hs218 := St.tk4 hs217
 exact ⟨q52, n53, m50, m51, slots_intro _ (by kernel_rfl), hs218, hm⟩
end Go.Proofs.YtmmclabkkigiaaaGreat

set_option maxRecDepth 20000
set_option maxHeartbeats 2000000
namespace Go.Proofs.YtmmclabkkigiaaaGreat
open Go Go.RowKit
def rthere16_M (img : List Int) (gw : Int) (gi : Int) (gb : Int) : Option (Int) :=
 if May gw gi gb then ((some (wordsOf gw gi gb)).bind fun r24 =>
if (img.length : Int) < r24 then (some 8) else (some 0)) else (some 1)
theorem rthere16_walk {img : List Int} {l : List (Int × Int)} {gw : Int} {gi : Int} {gb : Int} {vb : Nat} {r : Int} (B : Nat) (w : World) (hm : rthere16_M img gw gi gb = some r) : Spec Tryz.prog 31 #[(zp vb), (.agg #[(zi gw), (zi gi), (zi gb)])] B w [refA (ptr vb) img l] (fun v H' => v = .int .i64 r ∧ H' = [refA (ptr vb) img l]) := by
 refine spec_W Tryz.func31 rfl fun l0 hs => ?_
 unfold rthere16_M at hm
 refine W.sr fun K1 hK1 => ?_
 refine zN [(zi gw), (zi gi), (zi gb)] 37 hs fun b4 w2 hs3 => ?_
 refine zE 1 (hK1 _ _ ?_)
 refine W.seq fun K5 hK5 => ?_
 refine W.sr fun K6 hK6 => ?_
 refine zG ⟨b4, 0, none⟩ [(zi gw), (zi gi), (zi gb)] (cells_sub (hs3.heapAt 0 rfl) rfl) ?_
 refine zC00 hs3 (rmay_spec (gw := gw) (gi := gi) (gb := gb) B _) fun w7 hs9 => ?_
 refine zE 1 (hK6 _ _ ?_)
 refine W.cond (!(decide (May gw gi gb))) (by kernel_rfl) (fun h10 => ?_) (fun h10 => ?_)
 rotate_left
 ·
  have h10p : May gw gi gb := of_decide_eq_true (bnot_false h10)
  replace hm := ite_yes hm h10p
  refine W.skip ?_
  refine hK5 _ _ ?_
  refine W.seq fun K11 hK11 => ?_
  refine W.seq fun K12 hK12 => ?_
  have hs13 := St.f1 hs9
  obtain ⟨⟨_, ia14, ic15, la16, lc17, mn18⟩, ⟨ex19, hok20⟩, hs21⟩ := St.open hs13
  have hs22 : St B w l0 w7 [zb vb 87 [(.slice ia14 img.length ic15), (.slice la16 l.length lc17), (.bool mn18)], kU64.row ia14 ic15 img, kWr.row la16 lc17 l, zb b4 37 [(zi gw), (zi gi), (zi gb)]] := by cases ex19; exact hs21
  have := hok20.many
  have hs23 := hs22.drew
  refine W.regionD [(0, 0), (1, 1), (2, 2), (4, 4), (8, 8), (0, 0), (32, 32), (80, 80)] (fun w_ => St B w l0 w_ [zb vb 87 [(.slice ia14 img.length ic15), (.slice la16 l.length lc17), (.bool mn18)], kU64.row ia14 ic15 img, kWr.row la16 lc17 l, zb b4 37 [(zi gw), (zi gi), (zi gb)]]) (by kernel_rfl) hs23 ?_
  refine zA (zp vb) 0 hs23 ?_
  refine zA (zp vb) 1 hs23 ?_
  refine zA (zp vb) 2 hs23 ?_
  refine zB 3 ⟨vb, 0, none⟩ (.slice ia14 img.length ic15) (fun _ hS_ => (hS_.cellAt 0 rfl rfl)) hs23 ?_
  refine zA (zi (img.length : Int)) 4 hs23 ?_
  refine any_R 5 (by kernel_rfl) (fun _ hS_ => runs_loadAgg (ad := ⟨b4, 0, none⟩) (cs := [(zi gw), (zi gi), (zi gb)]) (by kernel_rfl) (cells_sub (hS_.heapAt 3 rfl) rfl)) hs23 ?_
  refine any_step 6 (by kernel_rfl) (by kernel_rfl) ?_
  obtain ⟨r24, h25, hm⟩ := bind_some hm
  replace h25 := some_inj h25
  refine ops_call0 hs23 (by kernel_rfl) (rwords_spec (gw := gw) (gi := gi) (gb := gb) B _) ?_
  rintro _ _ w26 ⟨hv28, hH29⟩ hs27
  rw [h25] at hv28
  try rw [h25] at hH29
  subst hv28 hH29
  have hs30 := St.ap0 hs27
  refine ops_done (by kernel_rfl) ⟨hs30, ?_⟩
  refine zA (.bool (decide ((img.length : Int) < r24))) 7 hs30 ?_
  refine any_done (by kernel_rfl) ?_
  have hs31 : St B w l0 w26 [refA (ptr vb) img l, zb b4 37 [(zi gw), (zi gi), (zi gb)]] := ref_close (l := l) (ia := ia14) (ic := ic15) (la := la16) (lc := lc17) (many := mn18) hok20 hs30
  refine hK12 _ _ ?_
  refine W.cond (decide ((img.length : Int) < r24)) (by kernel_rfl) (fun h32 => ?_) (fun h32 => ?_)
  ·
   obtain ⟨h32p, hm⟩ := iY hm h32
   refine W.sr fun K33 hK33 => ?_
   refine zE 1 (hK33 _ _ ?_)
   refine W.ret (ret_seq ?_)
   obtain rfl := some_inj hm
   have hs34 := St.tk1 hs31
   refine ret_of (zi 8) (by kernel_rfl) ⟨_, ⟨rfl, rfl⟩, hs34⟩
  obtain ⟨h32p, hm⟩ := iN hm h32
  refine W.skip ?_
  refine hK11 _ _ ?_
  refine W.sr fun K35 hK35 => ?_
  refine zE 1 (hK35 _ _ ?_)
  refine W.ret ?_
  obtain rfl := some_inj hm
  have hs36 := St.tk1 hs31
  refine ret_of (zi 0) (by kernel_rfl) ⟨_, ⟨rfl, rfl⟩, hs36⟩
 have h10p : ¬ (May gw gi gb) := of_decide_eq_false (bnot_true h10)
 replace hm := ite_no hm h10p
 refine W.sr fun K37 hK37 => ?_
 refine zE 1 (hK37 _ _ ?_)
 refine W.ret (ret_seq ?_)
 obtain rfl := some_inj hm
 have hs38 := St.f1 hs9
 have hs39 := St.tk1 hs38
 refine ret_of (zi 1) (by kernel_rfl) ⟨_, ⟨rfl, rfl⟩, hs39⟩
end Go.Proofs.YtmmclabkkigiaaaGreat

set_option maxRecDepth 20000
set_option maxHeartbeats 4000000
namespace Go.Proofs.YtmmclabkkigiaaaGreat
open Go Go.RowKit
def rwalked_J2 (k10 : (Int × Int) → Option (Int × Int)) (p9 : Int) (p22 : ByteArray) (p23 : Int) (p24 : Int) : Option (Int × Int) :=
 if p24 = 0 then (need (-9223372036854775808 ≤ (p9 + 1) ∧ (p9 + 1) ≤ 9223372036854775807) <|
k10 (p23, (p9 + 1))) else (some (0, p24))
def rwalked_B0 (img : List Int) (l : List (Int × Int)) (gw : Int) (gi : Int) (gb : Int) (xs : List ByteArray) (k10 : (Int × Int) → Option (Int × Int)) (p8 : Int) (p9 : Int) : Option (Int × Int) :=
 if p9 < (xs.length : Int) then (need (0 ≤ p9 ∧ p9 < (xs.length : Int)) <|
(rFind15_M img l gw gi gb p8 (xs.getD p9.toNat ByteArray.empty)).bind fun r42 =>
rwalked_J2 k10 p9 r42.1 r42.2.1 r42.2.2.2) else (some (p8, 0))
def rwalked_M (img : List Int) (l : List (Int × Int)) (gw : Int) (gi : Int) (gb : Int) (xs : List ByteArray) : Option (Int × Int) :=
 iter (fun k_ s_ => rwalked_B0 img l gw gi gb xs k_ s_.1 s_.2) FUEL (1, 0)
theorem rwalked_walk {img : List Int} {l : List (Int × Int)} {gw : Int} {gi : Int} {gb : Int} {xs : List ByteArray} {vb : Nat} {A_ : Asn} {xa : Option Addr} {xc : Nat} {r : Int × Int} (B : Nat) (w : World) (hA : ∀ {B_ : Nat} {w_ : World} {l_ : List Nat}, A_.P B_ w_ l_ → CellsAt xa (kStr.cells xs) w_) (hm : rwalked_M img l gw gi gb xs = some r) : Spec Tryz.prog 33 #[(zp vb), (.agg #[(zi gw), (zi gi), (zi gb)]), (.slice xa xs.length xc)] B w [refA (ptr vb) img l, A_] (fun v H' => v = (.tuple #[(zi r.1), (zi r.2)]) ∧ H' = [refA (ptr vb) img l, A_]) := by
 refine spec_W Tryz.func33 rfl fun l0 hs => ?_
 unfold rwalked_M at hm
 refine W.sr fun K1 hK1 => ?_
 refine zN [(zi gw), (zi gi), (zi gb)] 37 hs fun b4 w2 hs3 => ?_
 refine zE 2 (hK1 _ _ ?_)
 refine W.sr fun K5 hK5 => ?_
 refine zE 1 (hK5 _ _ ?_)
 refine W.seq fun K6 hK6 => ?_
 refine W.sr fun K7 hK7 => ?_
 refine zE 1 (hK7 _ _ ?_)
 refine W.block ?_
 have hs14 := St.f2 hs3
 have hs15 := St.f1 hs14
 have hs16 := St.f2 hs15
 refine W.loop_iter (G := Int × Int) (σ := Int × Int) (fun | (p8, p9) => (p8, p9)) (fun | (p8, p9), s_, w_ => (∃ us, s_ = slots 37 [(0, (zp vb)), (2, (.slice xa xs.length xc)), (4, (zp b4)), (8, (zi p8)), (9, (zi p9))] us) ∧ St B w l0 w_ [refA (ptr vb) img l, zb b4 37 [(zi gw), (zi gi), (zi gb)], A_]) (1, 0) ⟨slots_intro _ (by kernel_rfl), hs16⟩ hm ?_
 rintro k10 ih11 ⟨p8, p9⟩ _ w12 ⟨⟨us, rfl⟩, hs13⟩ hm
 replace hm : rwalked_B0 img l gw gi gb xs k10 p8 p9 = some r := hm
 unfold rwalked_B0 at hm
 refine W.seq fun K17 hK17 => ?_
 refine W.sr fun K18 hK18 => ?_
 refine zE 4 (hK18 _ _ ?_)
 refine W.cond (decide (p9 < (xs.length : Int))) (by kernel_rfl) (fun h19 => ?_) (fun h19 => ?_)
 ·
  obtain ⟨h19p, hm⟩ := iY hm h19
  refine W.skip ?_
  refine hK17 _ _ ?_
  refine W.seq fun K20 hK20 => ?_
  refine W.block ?_
  refine W.seq_join (fun s_ w_ => ∃ (p22 : ByteArray) (p23 : Int) (p24 : Int) (m21 : Nat), (∃ us, s_ = slots 37 [(0, (zp vb)), (2, (.slice xa xs.length xc)), (4, (zp b4)), (9, (zi p9)), (10, (zp m21)), (12, (zi p24))] us) ∧ St B w l0 w_ [refA (ptr vb) img l, zb b4 37 [(zi gw), (zi gi), (zi gb)], zb m21 76 [(.string p22), (zi p23)], A_] ∧ rwalked_J2 k10 p9 p22 p23 p24 = some r) ?_ ?_
  ·
   rintro _ w25 ⟨p22, p23, p24, m21, ⟨us, rfl⟩, hs26, hm⟩
   unfold rwalked_J2 at hm
   refine W.seq fun K27 hK27 => ?_
   refine W.sr fun K28 hK28 => ?_
   refine zE 2 (hK28 _ _ ?_)
   refine W.cond (!decide (p24 = 0)) (by kernel_rfl) (fun h29 => ?_) (fun h29 => ?_)
   rotate_left
   ·
    have h29p : p24 = 0 := of_decide_eq_true (bnot_false h29)
    replace hm := ite_yes hm h29p
    refine W.skip ?_
    refine hK27 _ _ ?_
    refine W.region ?_
    refine zR 1 ?_
    refine zL ⟨m21, 1, none⟩ (zi p23) (hs26.cellAt 2 rfl rfl) ?_
    refine zE 1 ?_
    refine normal_block ?_
    refine hK20 _ _ ?_
    refine W.region ?_
    refine zR 1 ?_
    obtain ⟨h30, hm⟩ := need_some hm
    refine zI _ (wrap_i64 h30.1 h30.2) ?_
    refine zE 1 ?_
    have hs31 := St.f3 hs26
    have hs32 := St.f2 hs31
    have hs33 := St.f2 hs32
    have hs34 := St.tk3 hs33
    refine loopAt_next ?_
    exact ih11 (p23, (p9 + 1)) _ _ ⟨slots_intro _ (by kernel_rfl), hs34⟩ hm
   have h29p : ¬ (p24 = 0) := of_decide_eq_false (bnot_true h29)
   replace hm := ite_no hm h29p
   refine W.sr fun K35 hK35 => ?_
   refine zE 3 (hK35 _ _ ?_)
   refine W.ret (ret_seq (ret_block (ret_seq (ret_seq (ret_block (ret_seq ?_))))))
   obtain rfl := some_inj hm
   have hs36 := St.f3 hs26
   have hs37 := St.f1 hs36
   have hs38 := St.tk2 hs37
   refine ret_of (.tuple #[(zi 0), (zi p24)]) (by kernel_rfl) ⟨_, ⟨rfl, rfl⟩, hs38⟩
  have hs39 := hs13.drew
  refine W.regionD [(0, 0), (0, 0), (0, 0), (0, 0), (0, 0), (24, 24), (32, 32), (71, 71), (128, 128), (256, 256), (256, 256), (256, 256), (0, 0), (5119, 4608), (14335, 1024), (32767, 2048)] (fun w_ => St B w l0 w_ [refA (ptr vb) img l, zb b4 37 [(zi gw), (zi gi), (zi gb)], A_]) (by kernel_rfl) hs39 ?_
  refine zA (zp vb) 0 hs39 ?_
  refine any_R 1 (by kernel_rfl) (fun _ hS_ => runs_loadAgg (ad := ⟨b4, 0, none⟩) (cs := [(zi gw), (zi gi), (zi gb)]) (by kernel_rfl) (cells_sub (hS_.heapAt 1 rfl) rfl)) hs39 ?_
  refine zA (zi p8) 2 hs39 ?_
  refine zA (.slice xa xs.length xc) 3 hs39 ?_
  refine zA (zi p9) 4 hs39 ?_
  obtain ⟨h41, hm⟩ := need_some hm
  have hk40 := lt_toNat h41
  refine any_R 5 (by kernel_rfl) (fun _ hS_ => runs_index (a := xa) (n := xs.length) (z := p9) (size := 1) p9.toNat (nat_of h41.1) hk40 (kStr.addr (hs39.entAt 2 rfl hA) hk40) (by kernel_rfl)) hs39 ?_
  refine zB 6 ((adr xa (p9.toNat * 1)).add 0) (.string (xs.getD p9.toNat ByteArray.empty)) (fun _ hS_ => (kStr.at (hS_.entAt 2 rfl hA) hk40 ByteArray.empty 0 rfl)) hs39 ?_
  refine any_step2 7 12 (by kernel_rfl) (by kernel_rfl) (by kernel_rfl) ?_ ?_
  ·
   obtain ⟨r42, h43, hm⟩ := bind_some hm
   refine zC11 hs39 (rFind15_walk (vb := vb) (gw := gw) (gi := gi) (gb := gb) (n_ := p8) (tx_ := (xs.getD p9.toNat ByteArray.empty)) (img := img) (l := l) (hm := h43) B _) fun w44 hs46 => ?_
   refine ops_done (by kernel_rfl) ⟨hs46, ?_⟩
   refine zA (.tuple #[(.agg #[(.string r42.1), (zi r42.2.1)]), (zi r42.2.2.1), (zi r42.2.2.2)]) 8 hs46 ?_
   refine zA (.agg #[(.string r42.1), (zi r42.2.1)]) 9 hs46 ?_
   refine zA (zi r42.2.2.1) 10 hs46 ?_
   refine zA (zi r42.2.2.2) 11 hs46 ?_
   refine any_step 12 (by kernel_rfl) (by kernel_rfl) ?_
   refine zN [(.string ByteArray.empty), (zi 0)] 76 hs46 fun b49 w47 hs48 => ?_
   have hs50 := St.f3 hs48
   have hs51 := St.f3 hs50
   have hs52 := St.f3 hs51
   have hs53 := St.tk3 hs52
   refine ops_done (by kernel_rfl) ⟨hs53, ?_⟩
   refine any_step 13 (by kernel_rfl) (by kernel_rfl) ?_
   refine zT 0 [(.string r42.1), (zi r42.2.1)] [(.string r42.1), (zi r42.2.1)] hs48 fun w54 hs56 => ?_
   have hs57 := St.f3 hs56
   have hs58 := St.f3 hs57
   have hs59 := St.f3 hs58
   have hs60 := St.tk3 hs59
   refine ops_done (by kernel_rfl) ⟨hs60, ?_⟩
   refine zA (zi r42.2.2.1) 14 hs60 ?_
   refine zA (zi r42.2.2.2) 15 hs60 ?_
   refine any_done (by kernel_rfl) ?_
   have hs61 := St.f3 hs56
   have hs62 := St.f1 hs61
   have hs63 := St.f3 hs62
   have hs64 := St.f3 hs63
   exact ⟨r42.1, r42.2.1, r42.2.2.2, b49, slots_intro _ (by kernel_rfl), hs64, hm⟩
  refine zN [(.string ByteArray.empty), (zi 0)] 76 hs39 fun b67 w65 hs66 => ?_
  have hs68 := St.f3 hs66
  have hs69 := St.f3 hs68
  have hs70 := St.f3 hs69
  have hs71 := St.tk3 hs70
  refine ops_done (by kernel_rfl) ⟨hs71, ?_⟩
  refine any_step 7 (by kernel_rfl) (by kernel_rfl) ?_
  obtain ⟨r72, h73, hm⟩ := bind_some hm
  have hs74 := St.f1 hs66
  refine zC11 hs74 (rFind15_walk (vb := vb) (gw := gw) (gi := gi) (gb := gb) (n_ := p8) (tx_ := (xs.getD p9.toNat ByteArray.empty)) (img := img) (l := l) (hm := h73) B _) fun w75 hs77 => ?_
  have hs78 := St.f3 hs77
  have hs79 := St.f3 hs78
  have hs80 := St.f2 hs79
  have hs81 := St.tk3 hs80
  refine ops_done (by kernel_rfl) ⟨hs81, ?_⟩
  refine zA (.tuple #[(.agg #[(.string r72.1), (zi r72.2.1)]), (zi r72.2.2.1), (zi r72.2.2.2)]) 8 hs81 ?_
  refine zA (.agg #[(.string r72.1), (zi r72.2.1)]) 9 hs81 ?_
  refine zA (zi r72.2.2.1) 10 hs81 ?_
  refine zA (zi r72.2.2.2) 11 hs81 ?_
  refine any_step 13 (by kernel_rfl) (by kernel_rfl) ?_
  have hs84 := St.f1 hs77
  refine zT 0 [(.string r72.1), (zi r72.2.1)] [(.string r72.1), (zi r72.2.1)] hs84 fun w82 hs85 => ?_
  have hs86 := St.f3 hs85
  have hs87 := St.f3 hs86
  have hs88 := St.f3 hs87
  have hs89 := St.tk3 hs88
  refine ops_done (by kernel_rfl) ⟨hs89, ?_⟩
  refine zA (zi r72.2.2.1) 14 hs89 ?_
  refine zA (zi r72.2.2.2) 15 hs89 ?_
  refine any_done (by kernel_rfl) ?_
  have hs90 := St.f3 hs85
  have hs91 := St.f1 hs90
  have hs92 := St.f3 hs91
  have hs93 := St.f3 hs92
  exact ⟨r72.1, r72.2.1, r72.2.2.2, b67, slots_intro _ (by kernel_rfl), hs93, hm⟩
 obtain ⟨h19p, hm⟩ := iN hm h19
 refine W.exit (exit_seq (exit_seq (exit_here ?_)))
 refine hK6 _ _ ?_
 refine W.sr fun K94 hK94 => ?_
 refine zE 3 (hK94 _ _ ?_)
 refine W.ret ?_
 obtain rfl := some_inj hm
 have hs95 := St.f2 hs13
 have hs96 := St.f1 hs95
 have hs97 := St.tk2 hs96
 refine ret_of (.tuple #[(zi p8), (zi 0)]) (by kernel_rfl) ⟨_, ⟨rfl, rfl⟩, hs97⟩
end Go.Proofs.YtmmclabkkigiaaaGreat

set_option maxRecDepth 20000
set_option maxHeartbeats 4000000
namespace Go.Proofs.YtmmclabkkigiaaaGreat
open Go Go.RowKit
def rWalk16_M (img : List Int) (l : List (Int × Int)) (gw : Int) (gi : Int) (gb : Int) (tx_ : ByteArray) : Option (Int × Int) :=
 (rthere16_M img gw gi gb).bind fun r6 =>
if r6 = 0 then ((rsplit_M tx_).bind fun r18 =>
if r18.2 = 0 then ((rwalked_M img l gw gi gb r18.1).bind fun r27 =>
some (r27.1, r27.2)) else (some (0, r18.2))) else (some (0, r6))
theorem rWalk16_walk {img : List Int} {l : List (Int × Int)} {gw : Int} {gi : Int} {gb : Int} {tx_ : ByteArray} {vb : Nat} {r : Int × Int} (B : Nat) (w : World) (hm : rWalk16_M img l gw gi gb tx_ = some r) : Spec Tryz.prog 10 #[(zp vb), (.agg #[(zi gw), (zi gi), (zi gb)]), (.string tx_)] B w [refA (ptr vb) img l] (fun v H' => v = (.tuple #[(zi r.1), (zi r.2)]) ∧ H' = [refA (ptr vb) img l]) := by
 refine spec_W Tryz.func10 rfl fun l0 hs => ?_
 unfold rWalk16_M at hm
 refine W.sr fun K1 hK1 => ?_
 refine zN [(zi gw), (zi gi), (zi gb)] 37 hs fun b4 w2 hs3 => ?_
 refine zE 2 (hK1 _ _ ?_)
 refine W.sr fun K5 hK5 => ?_
 refine zR 1 ?_
 refine zG ⟨b4, 0, none⟩ [(zi gw), (zi gi), (zi gb)] (cells_sub (hs3.heapAt 0 rfl) rfl) ?_
 obtain ⟨r6, h7, hm⟩ := bind_some hm
 have hs8 := St.f1 hs3
 refine zC11 hs8 (rthere16_walk (vb := vb) (gw := gw) (gi := gi) (gb := gb) (img := img) (l := l) (hm := h7) B _) fun w9 hs11 => ?_
 refine zE 1 (hK5 _ _ ?_)
 refine W.seq fun K12 hK12 => ?_
 refine W.sr fun K13 hK13 => ?_
 refine zE 2 (hK13 _ _ ?_)
 refine W.cond (!decide (r6 = 0)) (by kernel_rfl) (fun h14 => ?_) (fun h14 => ?_)
 rotate_left
 ·
  have h14p : r6 = 0 := of_decide_eq_true (bnot_false h14)
  replace hm := ite_yes hm h14p
  refine W.skip ?_
  refine hK12 _ _ ?_
  refine W.sr fun K15 hK15 => ?_
  refine zR 1 ?_
  obtain ⟨r18, h19, hm⟩ := bind_some hm
  refine ops_call0 hs11 (by kernel_rfl) (rsplit_walk (tx_ := tx_) (hm := h19) B _) ?_
  rintro _ _ w20 ⟨a16, c17, rfl, rfl⟩ hs21
  have hs22 := St.ap1 hs21
  refine zE 5 (hK15 _ _ ?_)
  refine W.seq fun K23 hK23 => ?_
  refine W.sr fun K24 hK24 => ?_
  refine zE 2 (hK24 _ _ ?_)
  refine W.cond (!decide (r18.2 = 0)) (by kernel_rfl) (fun h25 => ?_) (fun h25 => ?_)
  rotate_left
  ·
   have h25p : r18.2 = 0 := of_decide_eq_true (bnot_false h25)
   replace hm := ite_yes hm h25p
   refine W.skip ?_
   refine hK23 _ _ ?_
   refine W.sr fun K26 hK26 => ?_
   refine zR 1 ?_
   refine zG ⟨b4, 0, none⟩ [(zi gw), (zi gi), (zi gb)] (cells_sub (hs22.heapAt 2 rfl) rfl) ?_
   refine zR 1 ?_
   obtain ⟨r27, h28, hm⟩ := bind_some hm
   have hs29 := St.f1 hs22
   refine zC22 hs29 (rwalked_walk (vb := vb) (xa := a16) (xc := c17) (A_ := kStr.row a16 c17 r18.1) (img := img) (l := l) (gw := gw) (gi := gi) (gb := gb) (xs := r18.1) (hA := fun h_ => (row_at h_)) (hm := h28) B _) fun w30 hs32 => ?_
   refine zE 4 (hK26 _ _ ?_)
   refine W.ret ?_
   obtain rfl := some_inj hm
   have hs33 := St.tk1 hs32
   refine ret_of (.tuple #[(zi r27.1), (zi r27.2)]) (by kernel_rfl) ⟨_, ⟨rfl, rfl⟩, hs33⟩
  have h25p : ¬ (r18.2 = 0) := of_decide_eq_false (bnot_true h25)
  replace hm := ite_no hm h25p
  refine W.sr fun K34 hK34 => ?_
  refine zE 3 (hK34 _ _ ?_)
  refine W.ret (ret_seq ?_)
  obtain rfl := some_inj hm
  have hs35 := St.f1 hs22
  have hs36 := St.tk1 hs35
  refine ret_of (.tuple #[(zi 0), (zi r18.2)]) (by kernel_rfl) ⟨_, ⟨rfl, rfl⟩, hs36⟩
 have h14p : ¬ (r6 = 0) := of_decide_eq_false (bnot_true h14)
 replace hm := ite_no hm h14p
 refine W.sr fun K37 hK37 => ?_
 refine zE 3 (hK37 _ _ ?_)
 refine W.ret (ret_seq ?_)
 obtain rfl := some_inj hm
 have hs38 := St.tk1 hs11
 refine ret_of (.tuple #[(zi 0), (zi r6)]) (by kernel_rfl) ⟨_, ⟨rfl, rfl⟩, hs38⟩
def rParent16_M (img : List Int) (l : List (Int × Int)) (gw : Int) (gi : Int) (gb : Int) (tx_ : ByteArray) : Option (Int × ByteArray × Int) :=
 (rthere16_M img gw gi gb).bind fun r6 =>
if r6 = 0 then ((rsplit_M tx_).bind fun r18 =>
if r18.2 = 0 then (if (r18.1.length : Int) = 0 then (some (0, ByteArray.empty, 13)) else (need (-9223372036854775808 ≤ ((r18.1.length : Int) - 1) ∧ ((r18.1.length : Int) - 1) ≤ 9223372036854775807) <|
need (0 ≤ ((r18.1.length : Int) - 1) ∧ ((r18.1.length : Int) - 1) ≤ (r18.1.length : Int)) <|
(rwalked_M img l gw gi gb (r18.1.take (((r18.1.length : Int) - 1).toNat))).bind fun r37 =>
if r37.2 = 0 then ((some (igetM img l gw gi gb r37.1)).bind fun r50 =>
if r50.2 = 0 then (if r50.1.k = 2 then (need (-9223372036854775808 ≤ ((r18.1.length : Int) - 1) ∧ ((r18.1.length : Int) - 1) ≤ 9223372036854775807) <|
need (0 ≤ ((r18.1.length : Int) - 1) ∧ ((r18.1.length : Int) - 1) < (r18.1.length : Int)) <|
some (r37.1, (r18.1.getD (((r18.1.length : Int) - 1).toNat) ByteArray.empty), 0)) else (some (0, ByteArray.empty, 10))) else (some (0, ByteArray.empty, r50.2))) else (some (0, ByteArray.empty, r37.2)))) else (some (0, ByteArray.empty, r18.2))) else (some (0, ByteArray.empty, r6))
theorem rParent16_walk {img : List Int} {l : List (Int × Int)} {gw : Int} {gi : Int} {gb : Int} {tx_ : ByteArray} {vb : Nat} {r : Int × ByteArray × Int} (B : Nat) (w : World) (hm : rParent16_M img l gw gi gb tx_ = some r) : Spec Tryz.prog 12 #[(zp vb), (.agg #[(zi gw), (zi gi), (zi gb)]), (.string tx_)] B w [refA (ptr vb) img l] (fun v H' => v = (.tuple #[(zi r.1), (.string r.2.1), (zi r.2.2)]) ∧ H' = [refA (ptr vb) img l]) := by
 refine spec_W Tryz.func12 rfl fun l0 hs => ?_
 unfold rParent16_M at hm
 refine W.sr fun K1 hK1 => ?_
 refine zN [(zi gw), (zi gi), (zi gb)] 37 hs fun b4 w2 hs3 => ?_
 refine zE 3 (hK1 _ _ ?_)
 refine W.sr fun K5 hK5 => ?_
 refine zR 1 ?_
 refine zG ⟨b4, 0, none⟩ [(zi gw), (zi gi), (zi gb)] (cells_sub (hs3.heapAt 0 rfl) rfl) ?_
 obtain ⟨r6, h7, hm⟩ := bind_some hm
 have hs8 := St.f1 hs3
 refine zC11 hs8 (rthere16_walk (vb := vb) (gw := gw) (gi := gi) (gb := gb) (img := img) (l := l) (hm := h7) B _) fun w9 hs11 => ?_
 refine zE 1 (hK5 _ _ ?_)
 refine W.seq fun K12 hK12 => ?_
 refine W.sr fun K13 hK13 => ?_
 refine zE 2 (hK13 _ _ ?_)
 refine W.cond (!decide (r6 = 0)) (by kernel_rfl) (fun h14 => ?_) (fun h14 => ?_)
 rotate_left
 ·
  have h14p : r6 = 0 := of_decide_eq_true (bnot_false h14)
  replace hm := ite_yes hm h14p
  refine W.skip ?_
  refine hK12 _ _ ?_
  refine W.sr fun K15 hK15 => ?_
  refine zR 1 ?_
  obtain ⟨r18, h19, hm⟩ := bind_some hm
  refine ops_call0 hs11 (by kernel_rfl) (rsplit_walk (tx_ := tx_) (hm := h19) B _) ?_
  rintro _ _ w20 ⟨a16, c17, rfl, rfl⟩ hs21
  have hs22 := St.ap1 hs21
  refine zE 5 (hK15 _ _ ?_)
  refine W.seq fun K23 hK23 => ?_
  refine W.sr fun K24 hK24 => ?_
  refine zE 2 (hK24 _ _ ?_)
  refine W.cond (!decide (r18.2 = 0)) (by kernel_rfl) (fun h25 => ?_) (fun h25 => ?_)
  rotate_left
  ·
   have h25p : r18.2 = 0 := of_decide_eq_true (bnot_false h25)
   replace hm := ite_yes hm h25p
   refine W.skip ?_
   refine hK23 _ _ ?_
   refine W.seq fun K26 hK26 => ?_
   refine W.sr fun K27 hK27 => ?_
   refine zE 3 (hK27 _ _ ?_)
   refine W.cond (decide ((r18.1.length : Int) = 0)) (by kernel_rfl) (fun h28 => ?_) (fun h28 => ?_)
   ·
    obtain ⟨h28p, hm⟩ := iY hm h28
    refine W.sr fun K29 hK29 => ?_
    refine zE 3 (hK29 _ _ ?_)
    refine W.ret (ret_seq ?_)
    obtain rfl := some_inj hm
    have hs30 := St.f1 hs22
    have hs31 := St.tk1 hs30
    refine ret_of (.tuple #[(zi 0), (.string ByteArray.empty), (zi 13)]) (by kernel_rfl) ⟨_, ⟨rfl, rfl⟩, hs31⟩
   obtain ⟨h28p, hm⟩ := iN hm h28
   refine W.skip ?_
   refine hK26 _ _ ?_
   refine W.seq fun K32 hK32 => ?_
   have hs33 := hs22.drew
   refine W.regionD [(0, 0), (0, 0), (0, 0), (0, 0), (8, 8), (16, 16), (36, 36), (67, 67), (128, 128), (256, 256), (256, 256), (1023, 512), (4095, 1024)] (fun w_ => St B w l0 w_ [kStr.row a16 c17 r18.1, refA (ptr vb) img l, zb b4 37 [(zi gw), (zi gi), (zi gb)]]) (by kernel_rfl) hs33 ?_
   refine zA (zp vb) 0 hs33 ?_
   refine any_R 1 (by kernel_rfl) (fun _ hS_ => runs_loadAgg (ad := ⟨b4, 0, none⟩) (cs := [(zi gw), (zi gi), (zi gb)]) (by kernel_rfl) (cells_sub (hS_.heapAt 2 rfl) rfl)) hs33 ?_
   refine zA (.slice a16 r18.1.length c17) 2 hs33 ?_
   refine zA (.slice a16 r18.1.length c17) 3 hs33 ?_
   refine zA (zi (r18.1.length : Int)) 4 hs33 ?_
   obtain ⟨h34, hm⟩ := need_some hm
   refine any_val (v := .int .i64 (IntKind.i64.wrap ((r18.1.length : Int) - 1))) (v' := .int .i64 ((r18.1.length : Int) - 1)) 5 (by kernel_rfl) (fun _ => by kernel_rfl) (congrArg (Value.int .i64) (wrap_i64 h34.1 h34.2)) hs33 ?_
   obtain ⟨h35, hm⟩ := need_some hm
   have hc36 := St.kcap kStr hs33 0 rfl
   refine any_R 6 (by kernel_rfl) (fun _ hS_ => runs_prefixL (a := a16) (n := r18.1.length) (c := c17) (z := ((r18.1.length : Int) - 1)) (size := 1) (((r18.1.length : Int) - 1).toNat) (r18.1.take (((r18.1.length : Int) - 1).toNat)).length (le_take_len (le_toNat h35)) (nat_of h35.1) (le_toNat h35) hc36 (by kernel_rfl)) hs33 ?_
   refine any_step 7 (by kernel_rfl) (by kernel_rfl) ?_
   obtain ⟨r37, h38, hm⟩ := bind_some hm
   have hs39 := St.f1 hs33
   refine zC22 hs39 (rwalked_walk (vb := vb) (xa := a16) (xc := c17) (A_ := kStr.row a16 c17 r18.1) (img := img) (l := l) (gw := gw) (gi := gi) (gb := gb) (xs := (r18.1.take (((r18.1.length : Int) - 1).toNat))) (hA := fun h_ => (cells_take kStr (((r18.1.length : Int) - 1).toNat) (row_at h_))) (hm := h38) B _) fun w40 hs42 => ?_
   have hs43 := St.f2 hs42
   have hs44 := St.f1 hs43
   have hs45 := St.f2 hs44
   refine ops_done (by kernel_rfl) ⟨hs45, ?_⟩
   refine zA (.tuple #[(zi r37.1), (zi r37.2)]) 8 hs45 ?_
   refine zA (zi r37.1) 9 hs45 ?_
   refine zA (zi r37.2) 10 hs45 ?_
   refine zA (zi r37.1) 11 hs45 ?_
   refine zA (zi r37.2) 12 hs45 ?_
   refine any_done (by kernel_rfl) ?_
   refine hK32 _ _ ?_
   refine W.seq fun K46 hK46 => ?_
   refine W.sr fun K47 hK47 => ?_
   refine zE 2 (hK47 _ _ ?_)
   refine W.cond (!decide (r37.2 = 0)) (by kernel_rfl) (fun h48 => ?_) (fun h48 => ?_)
   rotate_left
   ·
    have h48p : r37.2 = 0 := of_decide_eq_true (bnot_false h48)
    replace hm := ite_yes hm h48p
    refine W.skip ?_
    refine hK46 _ _ ?_
    refine W.sr fun K49 hK49 => ?_
    refine zR 1 ?_
    refine zG ⟨b4, 0, none⟩ [(zi gw), (zi gi), (zi gb)] (cells_sub (hs42.heapAt 2 rfl) rfl) ?_
    refine zR 1 ?_
    obtain ⟨r50, h51, hm⟩ := bind_some hm
    replace h51 := some_inj h51
    refine ops_call0 hs42 (by kernel_rfl) (rg_spec (gw := gw) (gi := gi) (gb := gb) (n_ := r37.1) (hv := (hs42.entAt 0 rfl refA_at)) B _) ?_
    rintro _ _ w52 ⟨hv54, hH55⟩ hs53
    rw [h51] at hv54
    try rw [h51] at hH55
    subst hv54 hH55
    have hs56 := St.ap0 hs53
    refine zR 3 ?_
    refine zN [(zu 0), (zu 0), (zu 0), (zu 0), (zu 0), (zu 0), (zu 0), (zu 0), (zu 0), (zu 0)] 77 hs56 fun b59 w57 hs58 => ?_
    refine zT 0 [(zu r50.1.k), (zu r50.1.l), (zu r50.1.o), (zu r50.1.s), (zu r50.1.a), (zu r50.1.b), (zu r50.1.c), (zu r50.1.d), (zu r50.1.e), (zu r50.1.m)] [(zu r50.1.k), (zu r50.1.l), (zu r50.1.o), (zu r50.1.s), (zu r50.1.a), (zu r50.1.b), (zu r50.1.c), (zu r50.1.d), (zu r50.1.e), (zu r50.1.m)] hs58 fun w60 hs62 => ?_
    refine zE 1 (hK49 _ _ ?_)
    refine W.seq fun K63 hK63 => ?_
    refine W.sr fun K64 hK64 => ?_
    refine zE 2 (hK64 _ _ ?_)
    refine W.cond (!decide (r50.2 = 0)) (by kernel_rfl) (fun h65 => ?_) (fun h65 => ?_)
    rotate_left
    ·
     have h65p : r50.2 = 0 := of_decide_eq_true (bnot_false h65)
     replace hm := ite_yes hm h65p
     refine W.skip ?_
     refine hK63 _ _ ?_
     refine W.seq fun K66 hK66 => ?_
     refine W.sr fun K67 hK67 => ?_
     refine zR 1 ?_
     refine zL ⟨b59, 0, none⟩ (zu r50.1.k) (hs62.cellAt 0 rfl rfl) ?_
     refine zE 1 (hK67 _ _ ?_)
     refine W.cond (!decide (r50.1.k = 2)) (by kernel_rfl) (fun h68 => ?_) (fun h68 => ?_)
     rotate_left
     ·
      have h68p : r50.1.k = 2 := of_decide_eq_true (bnot_false h68)
      replace hm := ite_yes hm h68p
      refine W.skip ?_
      refine hK66 _ _ ?_
      refine W.seq fun K69 hK69 => ?_
      have hs70 := hs62.drew
      refine W.regionD [(0, 0), (0, 0), (0, 0), (4, 4), (8, 8), (18, 18), (32, 32), (1, 1), (255, 64), (511, 0)] (fun w_ => St B w l0 w_ [zb b59 77 [(zu r50.1.k), (zu r50.1.l), (zu r50.1.o), (zu r50.1.s), (zu r50.1.a), (zu r50.1.b), (zu r50.1.c), (zu r50.1.d), (zu r50.1.e), (zu r50.1.m)], refA (ptr vb) img l, kStr.row a16 c17 r18.1, zb b4 37 [(zi gw), (zi gi), (zi gb)]]) (by kernel_rfl) hs70 ?_
      refine zA (zi r37.1) 0 hs70 ?_
      refine zA (.slice a16 r18.1.length c17) 1 hs70 ?_
      refine zA (.slice a16 r18.1.length c17) 2 hs70 ?_
      refine zA (zi (r18.1.length : Int)) 3 hs70 ?_
      obtain ⟨h71, hm⟩ := need_some hm
      refine any_val (v := .int .i64 (IntKind.i64.wrap ((r18.1.length : Int) - 1))) (v' := .int .i64 ((r18.1.length : Int) - 1)) 4 (by kernel_rfl) (fun _ => by kernel_rfl) (congrArg (Value.int .i64) (wrap_i64 h71.1 h71.2)) hs70 ?_
      obtain ⟨h73, hm⟩ := need_some hm
      have hk72 := lt_toNat h73
      refine any_R 5 (by kernel_rfl) (fun _ hS_ => runs_index (a := a16) (n := r18.1.length) (z := ((r18.1.length : Int) - 1)) (size := 1) (((r18.1.length : Int) - 1).toNat) (nat_of h73.1) hk72 (kStr.addr (St.kcells kStr hs70 2 rfl) hk72) (by kernel_rfl)) hs70 ?_
      refine zB 6 ((adr a16 ((((r18.1.length : Int) - 1).toNat) * 1)).add 0) (.string (r18.1.getD (((r18.1.length : Int) - 1).toNat) ByteArray.empty)) (fun _ hS_ => (kStr.at (St.kcells kStr hS_ 2 rfl) hk72 ByteArray.empty 0 rfl)) hs70 ?_
      refine zA (zi r37.1) 7 hs70 ?_
      refine zA (.string (r18.1.getD (((r18.1.length : Int) - 1).toNat) ByteArray.empty)) 8 hs70 ?_
      refine zA (zi 0) 9 hs70 ?_
      refine any_done (by kernel_rfl) ?_
      refine hK69 _ _ ?_
      refine W.ret ?_
      obtain rfl := some_inj hm
      have hs74 := St.f1 hs70
      have hs75 := St.tk1 hs74
      refine ret_of (.tuple #[(zi r37.1), (.string (r18.1.getD (((r18.1.length : Int) - 1).toNat) ByteArray.empty)), (zi 0)]) (by kernel_rfl) ⟨_, ⟨rfl, rfl⟩, hs75⟩
     have h68p : ¬ (r50.1.k = 2) := of_decide_eq_false (bnot_true h68)
     replace hm := ite_no hm h68p
     refine W.sr fun K76 hK76 => ?_
     refine zE 3 (hK76 _ _ ?_)
     refine W.ret (ret_seq ?_)
     obtain rfl := some_inj hm
     have hs77 := St.f1 hs62
     have hs78 := St.tk1 hs77
     refine ret_of (.tuple #[(zi 0), (.string ByteArray.empty), (zi 10)]) (by kernel_rfl) ⟨_, ⟨rfl, rfl⟩, hs78⟩
    have h65p : ¬ (r50.2 = 0) := of_decide_eq_false (bnot_true h65)
    replace hm := ite_no hm h65p
    refine W.sr fun K79 hK79 => ?_
    refine zE 4 (hK79 _ _ ?_)
    refine W.ret (ret_seq ?_)
    obtain rfl := some_inj hm
    have hs80 := St.f1 hs62
    have hs81 := St.tk1 hs80
    refine ret_of (.tuple #[(zi 0), (.string ByteArray.empty), (zi r50.2)]) (by kernel_rfl) ⟨_, ⟨rfl, rfl⟩, hs81⟩
   have h48p : ¬ (r37.2 = 0) := of_decide_eq_false (bnot_true h48)
   replace hm := ite_no hm h48p
   refine W.sr fun K82 hK82 => ?_
   refine zE 4 (hK82 _ _ ?_)
   refine W.ret (ret_seq ?_)
   obtain rfl := some_inj hm
   have hs83 := St.tk1 hs42
   refine ret_of (.tuple #[(zi 0), (.string ByteArray.empty), (zi r37.2)]) (by kernel_rfl) ⟨_, ⟨rfl, rfl⟩, hs83⟩
  have h25p : ¬ (r18.2 = 0) := of_decide_eq_false (bnot_true h25)
  replace hm := ite_no hm h25p
  refine W.sr fun K84 hK84 => ?_
  refine zE 4 (hK84 _ _ ?_)
  refine W.ret (ret_seq ?_)
  obtain rfl := some_inj hm
  have hs85 := St.f1 hs22
  have hs86 := St.tk1 hs85
  refine ret_of (.tuple #[(zi 0), (.string ByteArray.empty), (zi r18.2)]) (by kernel_rfl) ⟨_, ⟨rfl, rfl⟩, hs86⟩
 have h14p : ¬ (r6 = 0) := of_decide_eq_false (bnot_true h14)
 replace hm := ite_no hm h14p
 refine W.sr fun K87 hK87 => ?_
 refine zE 4 (hK87 _ _ ?_)
 refine W.ret (ret_seq ?_)
 obtain rfl := some_inj hm
 have hs88 := St.tk1 hs11
 refine ret_of (.tuple #[(zi 0), (.string ByteArray.empty), (zi r6)]) (by kernel_rfl) ⟨_, ⟨rfl, rfl⟩, hs88⟩
end Go.Proofs.YtmmclabkkigiaaaGreat

set_option maxRecDepth 20000
set_option maxHeartbeats 4000000
namespace Go.Proofs.YtmmclabkkigiaaaGreat
open Go Go.RowKit
def rWithin16_B0 (img : List Int) (l : List (Int × Int)) (gw : Int) (gi : Int) (gb : Int) (a_ : Int) (k26 : (Int × Int) → Option (Bool × Int)) (p24 : Int) (p25 : Int) : Option (Bool × Int) :=
 if p25 ≤ gi then ((some (igetM img l gw gi gb p24)).bind fun r37 =>
if r37.2 = 0 then (if a_ = p24 then (some (true, 0)) else (if r37.1.m = 0 then (some (false, 0)) else (need (-9223372036854775808 ≤ r37.1.m ∧ r37.1.m ≤ 9223372036854775807) <|
need (-9223372036854775808 ≤ (p25 + 1) ∧ (p25 + 1) ≤ 9223372036854775807) <|
k26 (r37.1.m, (p25 + 1))))) else (some (false, r37.2))) else (some (false, 4))
def rWithin16_M (img : List Int) (l : List (Int × Int)) (gw : Int) (gi : Int) (gb : Int) (a_ : Int) (b_ : Int) : Option (Bool × Int) :=
 (some (igetM img l gw gi gb a_)).bind fun r6 =>
if r6.2 = 0 then (iter (fun k_ s_ => rWithin16_B0 img l gw gi gb a_ k_ s_.1 s_.2) FUEL (b_, 0)) else (some (false, r6.2))
theorem rWithin16_walk {img : List Int} {l : List (Int × Int)} {gw : Int} {gi : Int} {gb : Int} {a_ : Int} {b_ : Int} {vb : Nat} {r : Bool × Int} (B : Nat) (w : World) (hm : rWithin16_M img l gw gi gb a_ b_ = some r) : Spec Tryz.prog 14 #[(zp vb), (.agg #[(zi gw), (zi gi), (zi gb)]), (zi a_), (zi b_)] B w [refA (ptr vb) img l] (fun v H' => v = (.tuple #[(.bool r.1), (zi r.2)]) ∧ H' = [refA (ptr vb) img l]) := by
 refine spec_W Tryz.func14 rfl fun l0 hs => ?_
 unfold rWithin16_M at hm
 refine W.sr fun K1 hK1 => ?_
 refine zN [(zi gw), (zi gi), (zi gb)] 37 hs fun b4 w2 hs3 => ?_
 refine zE 2 (hK1 _ _ ?_)
 refine W.sr fun K5 hK5 => ?_
 refine zR 1 ?_
 refine zG ⟨b4, 0, none⟩ [(zi gw), (zi gi), (zi gb)] (cells_sub (hs3.heapAt 0 rfl) rfl) ?_
 refine zR 1 ?_
 obtain ⟨r6, h7, hm⟩ := bind_some hm
 replace h7 := some_inj h7
 refine ops_call0 hs3 (by kernel_rfl) (rg_spec (gw := gw) (gi := gi) (gb := gb) (n_ := a_) (hv := (hs3.entAt 1 rfl refA_at)) B _) ?_
 rintro _ _ w8 ⟨hv10, hH11⟩ hs9
 rw [h7] at hv10
 try rw [h7] at hH11
 subst hv10 hH11
 have hs12 := St.ap0 hs9
 refine zR 3 ?_
 refine zN [(zu 0), (zu 0), (zu 0), (zu 0), (zu 0), (zu 0), (zu 0), (zu 0), (zu 0), (zu 0)] 77 hs12 fun b15 w13 hs14 => ?_
 refine zT 0 [(zu r6.1.k), (zu r6.1.l), (zu r6.1.o), (zu r6.1.s), (zu r6.1.a), (zu r6.1.b), (zu r6.1.c), (zu r6.1.d), (zu r6.1.e), (zu r6.1.m)] [(zu r6.1.k), (zu r6.1.l), (zu r6.1.o), (zu r6.1.s), (zu r6.1.a), (zu r6.1.b), (zu r6.1.c), (zu r6.1.d), (zu r6.1.e), (zu r6.1.m)] hs14 fun w16 hs18 => ?_
 refine zE 1 (hK5 _ _ ?_)
 refine W.seq fun K19 hK19 => ?_
 refine W.sr fun K20 hK20 => ?_
 refine zE 2 (hK20 _ _ ?_)
 refine W.cond (!decide (r6.2 = 0)) (by kernel_rfl) (fun h21 => ?_) (fun h21 => ?_)
 rotate_left
 ·
  have h21p : r6.2 = 0 := of_decide_eq_true (bnot_false h21)
  replace hm := ite_yes hm h21p
  refine W.skip ?_
  refine hK19 _ _ ?_
  refine W.seq fun K22 hK22 => ?_
  refine W.sr fun K23 hK23 => ?_
  refine zE 1 (hK23 _ _ ?_)
  refine W.block ?_
  have hs30 := St.f1 hs18
  have hs31 := St.f2 hs30
  refine W.loop_iter (G := Int × Int) (σ := Int × Int) (fun | (p24, p25) => (p24, p25)) (fun | (p24, p25), s_, w_ => (∃ us, s_ = slots 50 [(0, (zp vb)), (2, (zi a_)), (3, (zi p24)), (5, (zp b4)), (12, (zi p25))] us) ∧ St B w l0 w_ [refA (ptr vb) img l, zb b4 37 [(zi gw), (zi gi), (zi gb)], zb b15 77 [(zu r6.1.k), (zu r6.1.l), (zu r6.1.o), (zu r6.1.s), (zu r6.1.a), (zu r6.1.b), (zu r6.1.c), (zu r6.1.d), (zu r6.1.e), (zu r6.1.m)]]) (b_, 0) ⟨slots_intro _ (by kernel_rfl), hs31⟩ hm ?_
  rintro k26 ih27 ⟨p24, p25⟩ _ w28 ⟨⟨us, rfl⟩, hs29⟩ hm
  replace hm : rWithin16_B0 img l gw gi gb a_ k26 p24 p25 = some r := hm
  unfold rWithin16_B0 at hm
  refine W.seq fun K32 hK32 => ?_
  refine W.sr fun K33 hK33 => ?_
  refine zR 2 ?_
  refine zL ⟨b4, 1, none⟩ (zi gi) (hs29.cellAt 1 rfl rfl) ?_
  refine zE 1 (hK33 _ _ ?_)
  refine W.cond (decide (p25 ≤ gi)) (by kernel_rfl) (fun h34 => ?_) (fun h34 => ?_)
  ·
   obtain ⟨h34p, hm⟩ := iY hm h34
   refine W.skip ?_
   refine hK32 _ _ ?_
   refine W.seq fun K35 hK35 => ?_
   refine W.block ?_
   refine W.sr fun K36 hK36 => ?_
   refine zR 1 ?_
   refine zG ⟨b4, 0, none⟩ [(zi gw), (zi gi), (zi gb)] (cells_sub (hs29.heapAt 1 rfl) rfl) ?_
   refine zR 1 ?_
   obtain ⟨r37, h38, hm⟩ := bind_some hm
   replace h38 := some_inj h38
   refine ops_call0 hs29 (by kernel_rfl) (rg_spec (gw := gw) (gi := gi) (gb := gb) (n_ := p24) (hv := (hs29.entAt 0 rfl refA_at)) B _) ?_
   rintro _ _ w39 ⟨hv41, hH42⟩ hs40
   rw [h38] at hv41
   try rw [h38] at hH42
   subst hv41 hH42
   have hs43 := St.ap0 hs40
   refine zR 3 ?_
   refine zN [(zu 0), (zu 0), (zu 0), (zu 0), (zu 0), (zu 0), (zu 0), (zu 0), (zu 0), (zu 0)] 77 hs43 fun b46 w44 hs45 => ?_
   refine zT 0 [(zu r37.1.k), (zu r37.1.l), (zu r37.1.o), (zu r37.1.s), (zu r37.1.a), (zu r37.1.b), (zu r37.1.c), (zu r37.1.d), (zu r37.1.e), (zu r37.1.m)] [(zu r37.1.k), (zu r37.1.l), (zu r37.1.o), (zu r37.1.s), (zu r37.1.a), (zu r37.1.b), (zu r37.1.c), (zu r37.1.d), (zu r37.1.e), (zu r37.1.m)] hs45 fun w47 hs49 => ?_
   refine zE 1 (hK36 _ _ ?_)
   refine W.seq fun K50 hK50 => ?_
   refine W.sr fun K51 hK51 => ?_
   refine zE 2 (hK51 _ _ ?_)
   refine W.cond (!decide (r37.2 = 0)) (by kernel_rfl) (fun h52 => ?_) (fun h52 => ?_)
   rotate_left
   ·
    have h52p : r37.2 = 0 := of_decide_eq_true (bnot_false h52)
    replace hm := ite_yes hm h52p
    refine W.skip ?_
    refine hK50 _ _ ?_
    refine W.seq fun K53 hK53 => ?_
    refine W.sr fun K54 hK54 => ?_
    refine zE 3 (hK54 _ _ ?_)
    refine W.cond (decide (a_ = p24)) (by kernel_rfl) (fun h55 => ?_) (fun h55 => ?_)
    ·
     obtain ⟨h55p, hm⟩ := iY hm h55
     refine W.sr fun K56 hK56 => ?_
     refine zE 2 (hK56 _ _ ?_)
     refine W.ret (ret_seq (ret_block (ret_seq (ret_seq (ret_block (ret_seq ?_))))))
     obtain rfl := some_inj hm
     have hs57 := St.f1 hs49
     have hs58 := St.tk1 hs57
     refine ret_of (.tuple #[(.bool true), (zi 0)]) (by kernel_rfl) ⟨_, ⟨rfl, rfl⟩, hs58⟩
    obtain ⟨h55p, hm⟩ := iN hm h55
    refine W.skip ?_
    refine hK53 _ _ ?_
    refine W.seq fun K59 hK59 => ?_
    refine W.sr fun K60 hK60 => ?_
    refine zR 1 ?_
    refine zL ⟨b46, 9, none⟩ (zu r37.1.m) (hs49.cellAt 0 rfl rfl) ?_
    refine zE 1 (hK60 _ _ ?_)
    refine W.cond (decide (r37.1.m = 0)) (by kernel_rfl) (fun h61 => ?_) (fun h61 => ?_)
    ·
     obtain ⟨h61p, hm⟩ := iY hm h61
     refine W.sr fun K62 hK62 => ?_
     refine zE 2 (hK62 _ _ ?_)
     refine W.ret (ret_seq (ret_block (ret_seq (ret_seq (ret_block (ret_seq ?_))))))
     obtain rfl := some_inj hm
     have hs63 := St.f1 hs49
     have hs64 := St.tk1 hs63
     refine ret_of (.tuple #[(.bool false), (zi 0)]) (by kernel_rfl) ⟨_, ⟨rfl, rfl⟩, hs64⟩
    obtain ⟨h61p, hm⟩ := iN hm h61
    refine W.skip ?_
    refine hK59 _ _ ?_
    refine W.region ?_
    refine zR 1 ?_
    refine zL ⟨b46, 9, none⟩ (zu r37.1.m) (hs49.cellAt 0 rfl rfl) ?_
    obtain ⟨h65, hm⟩ := need_some hm
    refine zI _ (wrap_i64 h65.1 h65.2) ?_
    refine zE 1 ?_
    refine normal_block ?_
    refine hK35 _ _ ?_
    refine W.region ?_
    refine zR 1 ?_
    obtain ⟨h66, hm⟩ := need_some hm
    refine zI _ (wrap_i64 h66.1 h66.2) ?_
    refine zE 1 ?_
    have hs67 := St.f3 hs49
    have hs68 := St.f3 hs67
    have hs69 := St.f3 hs68
    have hs70 := St.tk3 hs69
    refine loopAt_next ?_
    exact ih27 (r37.1.m, (p25 + 1)) _ _ ⟨slots_intro _ (by kernel_rfl), hs70⟩ hm
   have h52p : ¬ (r37.2 = 0) := of_decide_eq_false (bnot_true h52)
   replace hm := ite_no hm h52p
   refine W.sr fun K71 hK71 => ?_
   refine zE 3 (hK71 _ _ ?_)
   refine W.ret (ret_seq (ret_block (ret_seq (ret_seq (ret_block (ret_seq ?_))))))
   obtain rfl := some_inj hm
   have hs72 := St.f1 hs49
   have hs73 := St.tk1 hs72
   refine ret_of (.tuple #[(.bool false), (zi r37.2)]) (by kernel_rfl) ⟨_, ⟨rfl, rfl⟩, hs73⟩
  obtain ⟨h34p, hm⟩ := iN hm h34
  refine W.exit (exit_seq (exit_seq (exit_here ?_)))
  refine hK22 _ _ ?_
  refine W.sr fun K74 hK74 => ?_
  refine zE 2 (hK74 _ _ ?_)
  refine W.ret ?_
  obtain rfl := some_inj hm
  have hs75 := St.tk1 hs29
  refine ret_of (.tuple #[(.bool false), (zi 4)]) (by kernel_rfl) ⟨_, ⟨rfl, rfl⟩, hs75⟩
 have h21p : ¬ (r6.2 = 0) := of_decide_eq_false (bnot_true h21)
 replace hm := ite_no hm h21p
 refine W.sr fun K76 hK76 => ?_
 refine zE 3 (hK76 _ _ ?_)
 refine W.ret (ret_seq ?_)
 obtain rfl := some_inj hm
 have hs77 := St.f2 hs18
 have hs78 := St.tk1 hs77
 refine ret_of (.tuple #[(.bool false), (zi r6.2)]) (by kernel_rfl) ⟨_, ⟨rfl, rfl⟩, hs78⟩
end Go.Proofs.YtmmclabkkigiaaaGreat

namespace Go.Proofs.YtmmclabkkigiaaaGreat
open Go Go.RowKit
section
variable {gw gi gb n k : Int} {img : List Int} {l : List (Int × Int)}
theorem VI.iput (h : VI img l) {x : Nd} (hx : ∀ y ∈ x.list, U64 y) : VI img (iputM img l gw gi gb n x).2 := by
  unfold iputM
  split
  · split
    · exact VI.vwrites _ _ _ _ h hx
    · exact h
  · exact h
theorem VI.flatU (h : VI img l) : ∀ x ∈ vflat img l, U64 x := by
  intro x hx
  obtain ⟨j, hj, rfl⟩ := List.getElem_of_mem hx
  rw [vflat_length] at hj
  have h1 := vflat_get h.2 hj
  have h2 := h.1 (j : Int)
  rw [← h1] at h2
  have hj2 : j < (vflat img l).length := by rw [vflat_length]; exact hj
  simpa [List.getD, hj2] using h2
theorem iget_m (hv : VI img l) (h0 : (igetM img l gw gi gb n).2 = 0) : 0 ≤ (igetM img l gw gi gb n).1.m ∧ (igetM img l gw gi gb n).1.m < gi := by
  unfold igetM at h0 ⊢
  split at h0
  · rename_i h1
    rw [if_pos h1]
    split at h0
    · rename_i hR
      rw [if_pos hR]
      exact ⟨(hv.1 _).1, hR.2.1.2.2.2.2.2⟩
    · cases h0
  · rename_i h1
    exact absurd h0 h1
theorem walk_go (hv : VI img l) (hl : img.length ≤ 6232) (xs : List ByteArray) (hx : xs.length ≤ 1000) : ∀ (t : Nat) (p : Int) (m N N' : Nat), p.toNat + t = xs.length → 0 ≤ p → t < N → t < N' → ∀ q : Int,
    ∃ r : Int × Int, iter (fun k_ s_ => pwalk_B0 img l gw gi gb xs k_ s_.1 s_.2) N (q, p) = some r ∧ iter (fun k_ s_ => rwalked_B0 img l gw gi gb xs k_ s_.1 s_.2) N' (q, p) = some r := by
  intro t
  induction t with
  | zero =>
    intro p m N N' hp hp0 hN hN' q
    obtain ⟨a, rfl⟩ : ∃ a, N = a + 1 := ⟨N - 1, by omega⟩
    obtain ⟨b, rfl⟩ : ∃ b, N' = b + 1 := ⟨N' - 1, by omega⟩
    refine ⟨(q, 0), ?_, ?_⟩
    · show pwalk_B0 img l gw gi gb xs (iter _ a) q p = _
      unfold pwalk_B0
      rw [if_neg (by omega)]
    · show rwalked_B0 img l gw gi gb xs (iter _ b) q p = _
      unfold rwalked_B0
      rw [if_neg (by omega)]
  | succ t ih =>
    intro p m N N' hp hp0 hN hN' q
    obtain ⟨a, rfl⟩ : ∃ a, N = a + 1 := ⟨N - 1, by omega⟩
    obtain ⟨b, rfl⟩ : ∃ b, N' = b + 1 := ⟨N' - 1, by omega⟩
    obtain ⟨x, e1, e2, _⟩ := find_eq (gw := gw) (gi := gi) (gb := gb) (n := q) hv hl (xs.getD p.toNat ByteArray.empty)
    obtain ⟨c1, hc1⟩ : ∃ c1, c1 = iter (fun k_ s_ => pwalk_B0 img l gw gi gb xs k_ s_.1 s_.2) a := ⟨_, rfl⟩
    obtain ⟨c2, hc2⟩ : ∃ c2, c2 = iter (fun k_ s_ => rwalked_B0 img l gw gi gb xs k_ s_.1 s_.2) b := ⟨_, rfl⟩
    have L : iter (fun k_ s_ => pwalk_B0 img l gw gi gb xs k_ s_.1 s_.2) (a + 1) (q, p) = pwalk_B0 img l gw gi gb xs c1 q p := by rw [hc1]; rfl
    have Rr : iter (fun k_ s_ => rwalked_B0 img l gw gi gb xs k_ s_.1 s_.2) (b + 1) (q, p) = rwalked_B0 img l gw gi gb xs c2 q p := by rw [hc2]; rfl
    rw [L, Rr]
    unfold pwalk_B0 rwalked_B0 rwalked_J2
    have hlt : p < (xs.length : Int) := by omega
    have q0 : 0 ≤ p ∧ p < (xs.length : Int) := ⟨hp0, hlt⟩
    have q1 : -9223372036854775808 ≤ p + 1 ∧ p + 1 ≤ 9223372036854775807 := by omega
    have es : pstep_M img l gw gi gb q (xs.getD p.toNat ByteArray.empty) = some (x.2.1, x.2.2.2) := by
      unfold pstep_M
      exact bind_of e1 rfl
    simp only [need, if_pos hlt, if_pos q0, if_pos q1, es, e2, Option.bind]
    by_cases h0 : x.2.2.2 = 0
    · simp only [if_pos h0]
      obtain ⟨r, i1, i2⟩ := ih (p + 1) m a b (by omega) (by omega) (by omega) (by omega) x.2.1
      rw [← hc1] at i1
      rw [← hc2] at i2
      exact ⟨r, i1, i2⟩
    · simp only [if_neg h0]
      exact ⟨_, rfl, rfl⟩
theorem walk_eq (hv : VI img l) (hl : img.length ≤ 6232) (xs : List ByteArray) (hx : xs.length ≤ 1000) : ∃ r : Int × Int, pwalk_M img l gw gi gb xs = some r ∧ rwalked_M img l gw gi gb xs = some r :=
  walk_go hv hl xs hx xs.length 0 0 FUEL FUEL (by simp) (by omega) (fuel_lt (by omega)) (fuel_lt (by omega)) 1
theorem there_eq : rthere16_M img gw gi gb = some (if May gw gi gb ∧ wordsOf gw gi gb ≤ (img.length : Int) then 0 else if May gw gi gb then 8 else 1) := by
  unfold rthere16_M
  by_cases hM : May gw gi gb
  · rw [if_pos hM]
    refine bind_of rfl ?_
    by_cases hw : (img.length : Int) < wordsOf gw gi gb
    · rw [if_pos hw, if_neg (fun q => by omega), if_pos hM]
    · rw [if_neg hw, if_pos ⟨hM, by omega⟩]
  · rw [if_neg hM, if_neg fun q => hM q.1, if_neg hM]
theorem spl_few (tx : ByteArray) : (spl tx).1.length ≤ 201 := by
  have key : ∀ (l cur : List UInt8), (go cur l).length ≤ l.length + 1 := by
    intro l
    induction l with
    | nil => intro cur; simp [go]
    | cons c l ih =>
      intro cur
      have hgo : go cur (c :: l) = if c = 47 then cur :: go [] l else go (cur ++ [c]) l := rfl
      rw [hgo]
      split
      · have := ih []; simp only [List.length_cons]; omega
      · have := ih (cur ++ [c]); simp only [List.length_cons]; omega
  have fl : ∀ (ns : List (List UInt8)) (q : List ByteArray), (fin q ns).1.length ≤ q.length + ns.length := by
    intro ns
    induction ns with
    | nil => intro q; simp [fin]
    | cons x ns ih =>
      intro q
      unfold fin
      split
      · have := ih (q ++ [bs x]); simp only [List.length_append, List.length_cons, List.length_nil] at this ⊢; omega
      · simp
  unfold spl
  by_cases h1 : (tx.size : Int) > 200 ∨ slashB tx = false
  · rw [if_pos h1]; simp
  · rw [if_neg h1]
    by_cases h2 : tx = ByteArray.mk #[47]
    · rw [if_pos h2]; simp
    · rw [if_neg h2]
      have a := fl (go [] (tx.data.toList.drop 1)) []
      have b := key (tx.data.toList.drop 1) []
      have c : ¬ ((tx.size : Int) > 200) := fun q => h1 (.inl q)
      rw [List.length_drop, data_len] at b
      simp only [List.length_nil] at a
      omega
theorem Walk_eq (hv : VI img l) (hl : img.length ≤ 6232) (tx : ByteArray) : ∃ r : Int × Int, pWalk_M img l gw gi gb tx = some r ∧ rWalk16_M img l gw gi gb tx = some r := by
  have hs := spl_few tx
  obtain ⟨r, e1, e2⟩ := walk_eq (gw := gw) (gi := gi) (gb := gb) hv hl (spl tx).1 (by omega)
  unfold pWalk_M rWalk16_M
  rw [there_eq, psplit_eq, rsplit_eq]
  simp only [Option.bind]
  by_cases hP : May gw gi gb ∧ wordsOf gw gi gb ≤ (img.length : Int)
  · rw [if_pos hP, if_pos hP, if_pos rfl]
    by_cases h0 : (spl tx).2 = 0
    · rw [if_pos h0, if_pos h0, e1, e2]
      exact ⟨_, rfl, rfl⟩
    · rw [if_neg h0, if_neg h0]
      exact ⟨_, rfl, rfl⟩
  · rw [if_neg hP, if_neg hP]
    have hne : ¬ ((if May gw gi gb then (8 : Int) else 1) = 0) := by split <;> decide
    rw [if_neg hne, if_neg hne]
    exact ⟨_, rfl, rfl⟩
theorem Parent_eq (hv : VI img l) (hl : img.length ≤ 6232) (tx : ByteArray) : ∃ r : Int × ByteArray × Int, pParent_M img l gw gi gb tx = some r ∧ rParent16_M img l gw gi gb tx = some r := by
  have hs := spl_few tx
  obtain ⟨r, e1, e2⟩ := walk_eq (gw := gw) (gi := gi) (gb := gb) hv hl ((spl tx).1.take (((spl tx).1.length : Int) - 1).toNat) (by rw [List.length_take]; omega)
  unfold pParent_M rParent16_M
  rw [there_eq, psplit_eq, rsplit_eq]
  simp only [Option.bind]
  by_cases hP : May gw gi gb ∧ wordsOf gw gi gb ≤ (img.length : Int)
  · rw [if_pos hP, if_pos hP, if_pos rfl]
    unfold pParent_J1 pParent_J2
    by_cases h0 : (spl tx).2 = 0
    · simp only [if_pos h0]
      by_cases h1 : ((spl tx).1.length : Int) = 0
      · rw [if_pos h1, if_pos h1, if_neg (by decide)]
        exact ⟨_, rfl, rfl⟩
      · have q1 : -9223372036854775808 ≤ ((spl tx).1.length : Int) - 1 ∧ ((spl tx).1.length : Int) - 1 ≤ 9223372036854775807 := by omega
        have q2 : 0 ≤ ((spl tx).1.length : Int) - 1 ∧ ((spl tx).1.length : Int) - 1 ≤ ((spl tx).1.length : Int) := by omega
        have q3 : 0 ≤ ((spl tx).1.length : Int) - 1 ∧ ((spl tx).1.length : Int) - 1 < ((spl tx).1.length : Int) := by omega
        simp only [if_neg h1, need, if_pos q1, if_pos q2, if_pos q3, Option.bind, e1, e2]
        by_cases hr : r.2 = 0
        · simp only [if_pos hr]
          by_cases hi : (igetM img l gw gi gb r.1).2 = 0
          · simp only [if_pos hi]
            by_cases hk : (igetM img l gw gi gb r.1).1.k = 2
            · simp only [if_pos hk, if_pos hi]
              exact ⟨_, rfl, rfl⟩
            · simp only [if_neg hk]
              exact ⟨_, rfl, rfl⟩
          · simp only [if_neg hi]
            exact ⟨_, rfl, rfl⟩
        · simp only [if_neg hr]
          exact ⟨_, rfl, rfl⟩
    · simp only [if_neg h0]
      exact ⟨_, rfl, rfl⟩
  · rw [if_neg hP, if_neg hP]
    have hne : ¬ ((if May gw gi gb then (8 : Int) else 1) = 0) := by split <;> decide
    rw [if_neg hne, if_neg hne]
    exact ⟨_, rfl, rfl⟩
theorem within_go (hv : VI img l) (hM : May gw gi gb) (a : Int) : ∀ (t : Nat) (p : Int) (N N' : Nat), p.toNat + t = (gi + 1).toNat → 0 ≤ p → t < N → t < N' → ∀ b : Int,
    ∃ r : Bool × Int, iter (fun k_ s_ => pWithin_B0 img l gw gi gb a k_ s_.1 s_.2) N (b, p) = some r ∧ iter (fun k_ s_ => rWithin16_B0 img l gw gi gb a k_ s_.1 s_.2) N' (b, p) = some r := by
  have hg := may_out hM
  intro t
  induction t with
  | zero =>
    intro p N N' hp hp0 hN hN' b
    obtain ⟨a', rfl⟩ : ∃ a, N = a + 1 := ⟨N - 1, by omega⟩
    obtain ⟨b', rfl⟩ : ∃ b, N' = b + 1 := ⟨N' - 1, by omega⟩
    refine ⟨(false, 4), ?_, ?_⟩
    · show pWithin_B0 img l gw gi gb a (iter _ a') b p = _
      unfold pWithin_B0
      rw [if_neg (by omega)]
    · show rWithin16_B0 img l gw gi gb a (iter _ b') b p = _
      unfold rWithin16_B0
      rw [if_neg (by omega)]
  | succ t ih =>
    intro p N N' hp hp0 hN hN' b
    obtain ⟨a', rfl⟩ : ∃ a, N = a + 1 := ⟨N - 1, by omega⟩
    obtain ⟨b', rfl⟩ : ∃ b, N' = b + 1 := ⟨N' - 1, by omega⟩
    obtain ⟨c1, hc1⟩ : ∃ c1, c1 = iter (fun k_ s_ => pWithin_B0 img l gw gi gb a k_ s_.1 s_.2) a' := ⟨_, rfl⟩
    obtain ⟨c2, hc2⟩ : ∃ c2, c2 = iter (fun k_ s_ => rWithin16_B0 img l gw gi gb a k_ s_.1 s_.2) b' := ⟨_, rfl⟩
    have L : iter (fun k_ s_ => pWithin_B0 img l gw gi gb a k_ s_.1 s_.2) (a' + 1) (b, p) = pWithin_B0 img l gw gi gb a c1 b p := by rw [hc1]; rfl
    have Rr : iter (fun k_ s_ => rWithin16_B0 img l gw gi gb a k_ s_.1 s_.2) (b' + 1) (b, p) = rWithin16_B0 img l gw gi gb a c2 b p := by rw [hc2]; rfl
    rw [L, Rr]
    unfold pWithin_B0 rWithin16_B0 pWithin_J2
    have h1 : p < gi + 1 := by omega
    have h2 : p ≤ gi := by omega
    have q1 : -9223372036854775808 ≤ p + 1 ∧ p + 1 ≤ 9223372036854775807 := by omega
    simp only [if_pos h1, if_pos h2, Option.bind]
    by_cases h0 : (igetM img l gw gi gb b).2 = 0
    · have hm := iget_m hv h0
      have q2 : -9223372036854775808 ≤ (igetM img l gw gi gb b).1.m ∧ (igetM img l gw gi gb b).1.m ≤ 9223372036854775807 := by omega
      simp only [if_pos h0, if_true]
      by_cases hab : a = b
      · simp only [if_pos hab, decide_eq_true hab]
        exact ⟨_, rfl, by rw [h0]⟩
      · simp only [if_neg hab, decide_eq_false hab]
        by_cases hz : (igetM img l gw gi gb b).1.m = 0
        · simp only [if_pos hz, decide_eq_true hz, if_true]
          exact ⟨_, rfl, by rw [h0]⟩
        · simp only [if_neg hz, decide_eq_false hz, Bool.false_eq_true, if_false, need, if_pos q2, if_pos q1]
          obtain ⟨r, i1, i2⟩ := ih (p + 1) a' b' (by omega) (by omega) (by omega) (by omega) (igetM img l gw gi gb b).1.m
          rw [← hc1] at i1
          rw [← hc2] at i2
          exact ⟨r, i1, i2⟩
    · simp only [if_neg h0, if_true]
      exact ⟨_, rfl, rfl⟩
theorem Within_eq (hv : VI img l) (a b : Int) : ∃ r : Bool × Int, pWithin_M img l gw gi gb a b = some r ∧ rWithin16_M img l gw gi gb a b = some r := by
  unfold pWithin_M rWithin16_M
  simp only [Option.bind]
  by_cases h0 : (igetM img l gw gi gb a).2 = 0
  · have hM := iget_may h0
    have hg := may_out hM
    have q1 : -9223372036854775808 ≤ gi + 1 ∧ gi + 1 ≤ 9223372036854775807 := by omega
    rw [if_pos h0, if_pos h0, need, if_pos q1]
    exact within_go hv hM a (gi + 1).toNat 0 FUEL FUEL (by simp) (by omega) (fuel_lt (by omega)) (fuel_lt (by omega)) b
  · rw [if_neg h0, if_neg h0]
    exact ⟨_, rfl, rfl⟩
end
theorem or_u64 {x y : Int} (hx : U64 x) (hy : U64 y) : U64 (bits .or .u64 x y) := bits_u64 hx hy
theorem one_u64 {p : Int} (hp : 0 ≤ p ∧ p < 64) : U64 (shlK .u64 1 p) := by
  rw [shl_one hp]
  exact pow_u64 (by omega)
theorem tree_ok {ms : List TMk} (hm : ∀ x ∈ ms, good_Mk x) (hn : ms.length ≤ 40) : Ok (fun ws : List Int => ws.length = 1312 ∧ ∀ x ∈ ws, U64 x) (tree_M ms) := by
  have hM : May 1 21 61 := by unfold May; omega
  have hw : (fmtW 1 21 61).length = 1312 := by rw [fmtW_len, words_may hM]; rfl
  have hp6 : placeOf 6 1 21 61 0 = 472 := place6 hM
  unfold tree_M
  refine Ok.need (by omega) (Ok.need (by omega) ?_)
  rw [show (2 : Int) + 19 % 20 = 21 by omega, show (2 : Int) + 59 % 60 = 61 by omega]
  refine Ok.iter (fun s : List Int × Nat × List Int × Nat × Int × Int => (s.2.1 = s.1.length ∧ s.1.length = 1312 ∧ ∀ x ∈ s.1, U64 x) ∧ (s.2.2.2.1 = s.2.2.1.length ∧ 1 ≤ s.2.2.1.length ∧ (s.2.2.1.length : Int) ≤ s.2.2.2.2.1 ∧ ∀ x ∈ s.2.2.1, 1 ≤ x ∧ x < 21) ∧ (2 ≤ s.2.2.2.2.1 ∧ s.2.2.2.2.1 ≤ 21) ∧ 0 ≤ s.2.2.2.2.2) (fun s => ((ms.length : Int) - s.2.2.2.2.2).toNat) ?_ _ _
    ⟨⟨rfl, hw, fun x (hx : x ∈ fmtW 1 21 61) => fmtW_u64 x hx⟩, ⟨rfl, by simp, by simp, fun x hx => by simp at hx; omega⟩, by simp, by simp⟩ (fuel_lt (by simp only; omega))
  rintro k ⟨q, n, ds, m, p, i⟩ ⟨⟨h1, h2, h3⟩, ⟨h4, h5, h6, h7⟩, h8, h9⟩ ih
  simp only at h1 h2 h3 h4 h5 h6 h7 h8 h9 ih
  show Ok _ (tree_B0 ms k q n ds m p i)
  have J1 : Ok (fun ws : List Int => ws.length = 1312 ∧ ∀ x ∈ ws, U64 x) (tree_J1 q n) := by
    unfold tree_J1
    exact Ok.need h1 (Ok.some ⟨h2, h3⟩)
  unfold tree_B0
  rw [show (2 : Int) + 19 % 20 = 21 by omega, show (2 : Int) + 59 % 60 = 61 by omega]
  refine Ok.ite (fun hi => Ok.ite (fun hp => ?_) fun _ => J1) fun _ => J1
  have hg : good_Mk (ms.getD i.toNat dMk) := by
    have hil : i.toNat < ms.length := by omega
    have : ms.getD i.toNat dMk ∈ ms := by rw [List.getD_eq_getElem?_getD, List.getElem?_eq_getElem hil]; exact List.getElem_mem hil
    exact hm _ this
  have hg0 := hg.1
  have hd0 : (0 : Int) < (m : Int) := by omega
  have et : ((ms.getD i.toNat dMk).c0).tmod (m : Int) = ((ms.getD i.toNat dMk).c0) % (m : Int) := Int.tmod_eq_emod_of_nonneg (by omega)
  have e1 := Int.emod_nonneg ((ms.getD i.toNat dMk).c0) (show (m : Int) ≠ 0 by omega)
  have e2 := Int.emod_lt_of_pos ((ms.getD i.toNat dMk).c0) hd0
  rw [et]
  refine Ok.need h1 (Ok.need (by omega) (Ok.need (by omega) (Ok.need (by omega) (Ok.need (by omega) (Ok.need (by omega) (Ok.need (by omega) (Ok.name fun d hd => ?_)))))))
  have hdm : d ∈ ds := by
    rw [hd]
    have hlt : (((ms.getD i.toNat dMk).c0) % (m : Int)).toNat < ds.length := by omega
    rw [List.getD_eq_getElem?_getD, List.getElem?_eq_getElem hlt]
    exact List.getElem_mem hlt
  have hdr := h7 d hdm
  have hVI : VI q [] := VI.nil h3 (by omega)
  obtain ⟨r, a1, a2⟩ := radd_ok (gw := 1) (gi := 21) (gb := 61) (n := d) hVI (by omega) (((ms.getD i.toNat dMk).c1).extract 0 (mn (((ms.getD i.toNat dMk).c1).size : Int) 50).toNat) p
  have hmn : 0 ≤ mn (((ms.getD i.toNat dMk).c1).size : Int) 50 ∧ mn (((ms.getD i.toNat dMk).c1).size : Int) 50 ≤ (((ms.getD i.toNat dMk).c1).size : Int) := by unfold mn; split <;> omega
  refine Ok.need (by omega) (Ok.need (by omega) (Ok.need (by omega) (Ok.got15 a1 (Ok.ite (fun hr => Ok.need (by omega) ?_) fun _ => Ok.need (by omega) (ih _ ⟨⟨h1, h2, h3⟩, ⟨h4, h5, h6, h7⟩, h8, by simp only; omega⟩ (by simp only; omega))))))
  have J3 : ∀ (kd pa : Int) (ds' : List Int), U64 kd → U64 pa → (1 ≤ ds'.length ∧ (ds'.length : Int) ≤ p + 1 ∧ ∀ x ∈ ds', 1 ≤ x ∧ x < 21) → Ok (fun ws : List Int => ws.length = 1312 ∧ ∀ x ∈ ws, U64 x) (tree_J3 k q p i r ds' ds'.length kd pa) := by
    intro kd pa ds' hkd hpa hds
    unfold tree_J3
    rw [show (2 : Int) + 19 % 20 = 21 by omega, show (2 : Int) + 59 % 60 = 61 by omega, hp6]
    refine Ok.name fun z hz => ?_
    have hzV : VI q z.2 := by
      rw [hz]
      refine a2.iput fun y hy => ?_
      unfold Nd.list at hy
      simp only [List.mem_cons, List.not_mem_nil, or_false] at hy
      rcases hy with rfl | rfl | rfl | rfl | rfl | rfl | rfl | rfl | rfl | rfl
      all_goals first | exact hkd | exact hpa | (unfold U64; omega)
    have hfl := vflat_length q z.2
    refine Ok.need (by omega) (Ok.need (by omega) (Ok.need (by omega) (Ok.need (by omega) (Ok.need (by omega) (Ok.need (by omega) (ih _ ⟨⟨by simp only [List.length_set], by simp only [List.length_set]; omega, fun x hx => ?_⟩, ⟨rfl, hds.1, hds.2.1, hds.2.2⟩, by simp only; omega, by simp only; omega⟩ (by simp only; omega)))))))
    simp only at hx
    rcases List.mem_or_eq_of_mem_set hx with w | w
    · exact hzV.flatU x w
    · rw [w]
      have : U64 ((vflat q z.2).getD (472 : Int).toNat 0) := by
        have hlt : (472 : Int).toNat < (vflat q z.2).length := by rw [hfl, h2]; decide
        have hmem : (vflat q z.2).getD (472 : Int).toNat 0 ∈ vflat q z.2 := by rw [List.getD_eq_getElem?_getD, List.getElem?_eq_getElem hlt]; exact List.getElem_mem hlt
        exact hzV.flatU _ hmem
      exact or_u64 this (one_u64 (by omega))
  refine Ok.ite (fun _ => ?_) fun _ => ?_
  · have := J3 1 0 ds (by unfold U64; omega) u64_zero ⟨h5, by omega, h7⟩
    rw [← h4] at this
    exact this
  · refine Ok.need (by omega) (Ok.need (by omega) (Ok.need h4 (J3 2 d (ds ++ [p]) (by unfold U64; omega) (by unfold U64; omega) ⟨by rw [List.length_append]; omega, by rw [List.length_append]; simp only [List.length_cons, List.length_nil]; omega, fun x hx => ?_⟩)))
    rcases List.mem_append.1 hx with w | w
    · exact h7 x w
    · rw [List.mem_singleton] at w
      omega
end Go.Proofs.YtmmclabkkigiaaaGreat
