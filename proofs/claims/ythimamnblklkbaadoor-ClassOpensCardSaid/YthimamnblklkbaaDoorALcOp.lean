/- What the code computes, by a program. -/
import Derived.Test.YthimamnblklkbaaDoorGM
import Derived.Test.YthimamnblklkbaaDoorGC
namespace Go.Proofs.YthimamnblklkbaaDoor
open Go Go.RowKit
set_option linter.unusedSimpArgs false
set_option linter.unusedVariables false

def classopens_B2 (i_ : Int) (k51 : ((List Int) × Nat × Int × Bool × Int) → Option (Bool)) (q46 : List Int) (n47 : Nat) (p50 : Int) (p76 : Int) (p77 : Bool) (l78 : List (Int × Int)) (k96 : Int → Option (Bool)) (p95 : Int) : Option (Bool) :=
  if p95 < (n47 : Int) then (if p95 < (sessAt (i_.tmod 4)) then (need (0 ≤ p95 ∧ p95 < (((vflat q46 l78).length) : Int)) <|
need (0 ≤ p95 ∧ p95 < (n47 : Int)) <|
need (p95.toNat < q46.length) <|
if ((vflat q46 l78).getD p95.toNat 0) = (q46.getD p95.toNat 0) then (need (-9223372036854775808 ≤ (p95 + 1) ∧ (p95 + 1) ≤ 9223372036854775807) <|
k96 (p95 + 1)) else (some false)) else (need (-9223372036854775808 ≤ ((sessAt (i_.tmod 4)) + 64) ∧ ((sessAt (i_.tmod 4)) + 64) ≤ 9223372036854775807) <|
if p95 ≥ ((sessAt (i_.tmod 4)) + 64) then (need (0 ≤ p95 ∧ p95 < (((vflat q46 l78).length) : Int)) <|
need (0 ≤ p95 ∧ p95 < (n47 : Int)) <|
need (p95.toNat < q46.length) <|
if ((vflat q46 l78).getD p95.toNat 0) = (q46.getD p95.toNat 0) then (need (-9223372036854775808 ≤ (p95 + 1) ∧ (p95 + 1) ≤ 9223372036854775807) <|
k96 (p95 + 1)) else (some false)) else (need (-9223372036854775808 ≤ (p95 + 1) ∧ (p95 + 1) ≤ 9223372036854775807) <|
k96 (p95 + 1)))) else (need (-9223372036854775808 ≤ (p50 + 1) ∧ (p50 + 1) ≤ 9223372036854775807) <|
k51 ((vflat q46 l78), (vflat q46 l78).length, p76, p77, (p50 + 1)))

def classopens_J4 (i_ : Int) (k51 : ((List Int) × Nat × Int × Bool × Int) → Option (Bool)) (q46 : List Int) (n47 : Nat) (p50 : Int) (p76 : Int) (p77 : Bool) (l78 : List (Int × Int)) : Option (Bool) :=
  if (((vflat q46 l78).length) : Int) = (n47 : Int) then (iter (fun k_ s_ => classopens_B2 i_ k51 q46 n47 p50 p76 p77 l78 k_ s_) FUEL 0) else (some false)

def classopens_J3 (i_ : Int) (k51 : ((List Int) × Nat × Int × Bool × Int) → Option (Bool)) (q46 : List Int) (n47 : Nat) (p50 : Int) (p76 : Int) (p77 : Bool) (l78 : List (Int × Int)) (p79 : Int) : Option (Bool) :=
  if p79 = 0 then (classopens_J4 i_ k51 q46 n47 p50 p76 p77 l78) else (if (l78.length : Int) > 0 then (some false) else (classopens_J4 i_ k51 q46 n47 p50 p76 p77 l78))

def classopens_J6 (i_ : Int) (k51 : ((List Int) × Nat × Int × Bool × Int) → Option (Bool)) (q46 : List Int) (n47 : Nat) (p50 : Int) (r156 : Int × Int × List (Int × Int)) (p161 : Int) (p162 : Bool) (p163 : Int) : Option (Bool) :=
  if r156.2.1 = 0 then (if r156.1 = p163 then ((cof_M q46 r156.2.2 (i_.tmod 4) p161 1).bind fun r171 =>
if p163 = 0 then (if r171.2.2.2.2.2 = 0 then (if r171.1 = 0 then (classopens_J3 i_ k51 q46 n47 p50 p161 p162 r156.2.2 p163) else (some false)) else (some false)) else (classopens_J3 i_ k51 q46 n47 p50 p161 p162 r156.2.2 p163)) else (some false)) else (some false)

def classopens_J8 (i_ : Int) (k51 : ((List Int) × Nat × Int × Bool × Int) → Option (Bool)) (q46 : List Int) (n47 : Nat) (p48 : Int) (p50 : Int) (r73 : Int) (r156 : Int × Int × List (Int × Int)) (p200 : Bool) (p207 : Bool) : Option (Bool) :=
  if p207 = true then (classopens_J6 i_ k51 q46 n47 p50 r156 r73 true 0) else (classopens_J6 i_ k51 q46 n47 p50 r156 p48 p200 3)

def classopens_J7 (i_ : Int) (k51 : ((List Int) × Nat × Int × Bool × Int) → Option (Bool)) (q46 : List Int) (n47 : Nat) (p48 : Int) (p50 : Int) (r73 : Int) (r156 : Int × Int × List (Int × Int)) (p200 : Bool) (p201 : Bool) : Option (Bool) :=
  if p201 = true then (classopens_J6 i_ k51 q46 n47 p50 r156 p48 p200 1) else (if r73 ≤ p48 then (classopens_J6 i_ k51 q46 n47 p50 r156 p48 p200 2) else (if p200 = true then (classopens_J8 i_ k51 q46 n47 p48 p50 r73 r156 p200 false) else (classopens_J8 i_ k51 q46 n47 p48 p50 r73 r156 p200 (decide (r73 = ((p48 + 1) % 18446744073709551616))))))

def classopens_J9 (i_ : Int) (k51 : ((List Int) × Nat × Int × Bool × Int) → Option (Bool)) (q46 : List Int) (n47 : Nat) (p48 : Int) (p50 : Int) (r218 : Int × Int × List (Int × Int)) (p223 : Bool) (p224 : Int) : Option (Bool) :=
  if r218.2.1 = 0 then (if r218.1 = p224 then (classopens_J3 i_ k51 q46 n47 p50 p48 p223 r218.2.2 p224) else (some false)) else (some false)

def classopens_J10 (i_ : Int) (k51 : ((List Int) × Nat × Int × Bool × Int) → Option (Bool)) (q46 : List Int) (n47 : Nat) (p48 : Int) (p49 : Bool) (p50 : Int) (r73 : Int) (r218 : Int × Int × List (Int × Int)) (p237 : Bool) : Option (Bool) :=
  if p237 = true then (classopens_J9 i_ k51 q46 n47 p48 p50 r218 false 0) else (if r73 = p48 then (classopens_J9 i_ k51 q46 n47 p48 p50 r218 p49 1) else (classopens_J9 i_ k51 q46 n47 p48 p50 r218 p49 3))

def classopens_B1 (i_ : Int) (gs : List Int) (k51 : ((List Int) × Nat × Int × Bool × Int) → Option (Bool)) (q46 : List Int) (n47 : Nat) (p48 : Int) (p49 : Bool) (p50 : Int) : Option (Bool) :=
  if p50 < (gs.length : Int) then (need (n47 = q46.length) <|
need (q46.length ≤ 17592186044415) <|
need (0 ≤ p50 ∧ p50 < (gs.length : Int)) <|
need (0 ≤ ((gs.getD p50.toNat 0).tdiv 2) ∧ ((gs.getD p50.toNat 0).tdiv 2) ≤ 255) <|
need (0 ≤ ((gs.getD p50.toNat 0).tdiv 2) ∧ ((gs.getD p50.toNat 0).tdiv 2) ≤ 18446744073709551615) <|
(some ((1 + ((gs.getD p50.toNat 0).tdiv 2).tmod 6) % 18446744073709551616)).bind fun r73 =>
need (0 ≤ p50 ∧ p50 < (gs.length : Int)) <|
if (gs.getD p50.toNat 0).tmod 2 = 0 then ((copen_M q46 ([]) (i_.tmod 4) r73).bind fun r156 =>
if p49 = true then (classopens_J7 i_ k51 q46 n47 p48 p50 r73 r156 true (decide (r73 = p48))) else (classopens_J7 i_ k51 q46 n47 p48 p50 r73 r156 false false)) else ((cclose_M q46 ([]) (i_.tmod 4) r73).bind fun r218 =>
if r73 < p48 then (classopens_J9 i_ k51 q46 n47 p48 p50 r218 p49 2) else (if r73 = p48 then (classopens_J10 i_ k51 q46 n47 p48 p49 p50 r73 r218 p49) else (classopens_J10 i_ k51 q46 n47 p48 p49 p50 r73 r218 false)))) else ((works11_M).bind fun r248 =>
some r248)

def classopens_J1 (i_ : Int) (gs : List Int) (r28 : List Int) (q37 : List Int) : Option (Bool) :=
  iter (fun k_ s_ => classopens_B1 i_ gs k_ s_.1 s_.2.1 s_.2.2.1 s_.2.2.2.1 s_.2.2.2.2) FUEL (q37, r28.length, 0, false, 0)

def classopens_B0 (i_ : Int) (gs : List Int) (r28 : List Int) (k257 : ((List Int) × Int) → Option (Bool)) (q255 : List Int) (p256 : Int) : Option (Bool) :=
  if p256 < 64 then (need (-9223372036854775808 ≤ ((sessAt (i_.tmod 4)) + p256) ∧ ((sessAt (i_.tmod 4)) + p256) ≤ 9223372036854775807) <|
need (0 ≤ ((sessAt (i_.tmod 4)) + p256) ∧ ((sessAt (i_.tmod 4)) + p256) < (r28.length : Int)) <|
need (((sessAt (i_.tmod 4)) + p256).toNat < q255.length) <|
need (-9223372036854775808 ≤ (p256 + 1) ∧ (p256 + 1) ≤ 9223372036854775807) <|
k257 ((q255.set (((sessAt (i_.tmod 4)) + p256).toNat) 0), (p256 + 1))) else (classopens_J1 i_ gs r28 q255)

def classopens_M (ts : List TTn) (i_ : Int) (gs : List Int) : Option (Bool) :=
  if (ts.length : Int) > 40 then ((works11_M).bind fun r6 =>
some r6) else (if (gs.length : Int) > 40 then ((works11_M).bind fun r13 =>
some r13) else (need (-9223372036854775808 ≤ i_ ∧ i_ ≤ 9223372036854775807) <|
need ((0 : Int) ≤ 0 ∧ (0 : Int) ≤ 255) <|
need ((0 : Int) ≤ 0 ∧ (0 : Int) ≤ 255) <|
(image_M 1 (2 + 0 % 20) (2 + 0 % 60) ts 0).bind fun r28 =>
iter (fun k_ s_ => classopens_B0 i_ gs r28 k_ s_.1 s_.2) FUEL (r28, 0)))

set_option maxRecDepth 20000 in
set_option maxHeartbeats 4000000 in
set_option linter.unusedVariables false in
theorem classopens_walk {ts : List TTn} {i_ : Int} {gs : List Int} {ta : Option Addr} {tc : Nat} {ga : Option Addr} {gc : Nat}  (B : Nat) (w : World) (hB : w.heap.size = B) (hL : CellsAt (some ⟨1, 0, none⟩) [(.int .i64 1), (.int .i64 2), (.int .i64 2)] w) (ht : CellsAt ta (kTn.cells ts) w) (hgs : CellsAt ga (kU8.cells gs) w) (hm : classopens_M ts i_ gs = some true) : Spec Tryd.prog 16 #[(.slice ta ts.length tc), (.int .u8 i_), (.slice ga gs.length gc)] B w [] (fun v H' => v = .bool true ∧ H' = []) := by
  refine spec_Q Tryd.func16 rfl fun hs => ?_
  unfold classopens_M at hm
  have hG2 : 1 < B := by rw [← hB]; exact lt_of_cells hL (v := .int .i64 1) rfl
  refine W.seq fun K1 hK1 => ?_
  refine W.region ?_
  refine ops_run 1 (by kernel_rfl) ?_
  refine ops_done (by kernel_rfl) ?_
  refine hK1 _ _ ?_
  clear hK1
  refine W.seq fun K2 hK2 => ?_
  refine W.seq fun K3 hK3 => ?_
  refine W.region ?_
  refine ops_run 4 (by kernel_rfl) ?_
  rcases Bool.eq_false_or_eq_true (decide ((ts.length : Int) > 40)) with h4 | h4
  ·
    have h4p : (ts.length : Int) > 40 := of_decide_eq_true h4
    replace hm := ite_yes hm h4p
    refine ops_set 29 (v := .bool true) (eq_bool_of (by kernel_rfl) h4) ?_
    refine ops_set 28 (v := .bool true) (eq_bool_of (by kernel_rfl) h4) ?_
    refine ops_run 4 (by kernel_rfl) ?_
    refine ops_done (by kernel_rfl) ?_
    refine hK3 _ _ ?_
    clear hK3
    refine W.cond_true true (by kernel_rfl) rfl ?_
    refine W.seq fun K5 hK5 => ?_
    refine W.region ?_
    obtain ⟨r6, h7, hm⟩ := bind_some hm
    refine ops_call0 hs (by kernel_rfl) (works11_walk (hG2 := hG2) (hL := (hs.oldCells hL)) (hm := h7) B _) ?_
    rintro _ _ w8 ⟨rfl, rfl⟩ hs9
    have hs10 := St.ap0 hs9
    refine ops_run 1 (by kernel_rfl) ?_
    refine ops_done (by kernel_rfl) ?_
    refine hK5 _ _ ?_
    clear hK5
    refine W.ret (ret_seq ?_)
    refine ret_of (.bool r6) (by kernel_rfl) ⟨_, ⟨congrArg Value.bool (some_inj hm), rfl⟩, hs10⟩
  ·
    have h4p : ¬ ((ts.length : Int) > 40) := of_decide_eq_false h4
    replace hm := ite_no hm h4p
    refine ops_set 29 (v := .bool false) (eq_bool_of (by kernel_rfl) h4) ?_
    refine ops_set 28 (v := .bool false) (eq_bool_of (by kernel_rfl) h4) ?_
    refine ops_run 4 (by kernel_rfl) ?_
    refine ops_done (by kernel_rfl) ?_
    refine hK3 _ _ ?_
    clear hK3
    refine W.cond (decide ((gs.length : Int) > 40)) (by kernel_rfl) (fun h11 => ?_) (fun h11 => ?_)
    ·
      have h11p : (gs.length : Int) > 40 := of_decide_eq_true h11
      replace hm := ite_yes hm h11p
      refine W.seq fun K12 hK12 => ?_
      refine W.region ?_
      obtain ⟨r13, h14, hm⟩ := bind_some hm
      refine ops_call0 hs (by kernel_rfl) (works11_walk (hG2 := hG2) (hL := (hs.oldCells hL)) (hm := h14) B _) ?_
      rintro _ _ w15 ⟨rfl, rfl⟩ hs16
      have hs17 := St.ap0 hs16
      refine ops_run 1 (by kernel_rfl) ?_
      refine ops_done (by kernel_rfl) ?_
      refine hK12 _ _ ?_
      clear hK12
      refine W.ret (ret_seq ?_)
      refine ret_of (.bool r13) (by kernel_rfl) ⟨_, ⟨congrArg Value.bool (some_inj hm), rfl⟩, hs17⟩
    ·
      have h11p : ¬ ((gs.length : Int) > 40) := of_decide_eq_false h11
      replace hm := ite_no hm h11p
      refine W.skip ?_
      refine hK2 _ _ ?_
      clear hK2
      refine W.seq fun K18 hK18 => ?_
      refine W.region ?_
      refine ops_run 1 (by kernel_rfl) ?_
      obtain ⟨h19, hm⟩ := need_some hm
      refine ops_val (v := .int .i64 (IntKind.i64.wrap i_)) (v' := .int .i64 i_) (by kernel_rfl) (congrArg (Value.int .i64) (wrap_i64 h19.1 h19.2)) ?_
      refine ops_run 2 (by kernel_rfl) ?_
      refine ops_done (by kernel_rfl) ?_
      refine hK18 _ _ ?_
      clear hK18
      refine W.seq fun K20 hK20 => ?_
      refine W.region ?_
      obtain ⟨h21, hm⟩ := need_some hm
      obtain ⟨h22, hm⟩ := need_some hm
      refine ops_call0 hs (by kernel_rfl) (small_spec (x_ := 0) (y_ := 0) (hx := h21) (hy := h22) B _) ?_
      rintro _ _ w23 ⟨rfl, rfl⟩ hs24
      have hs25 := St.ap0 hs24
      refine ops_run 1 (by kernel_rfl) ?_
      obtain ⟨r28, h29, hm⟩ := bind_some hm
      refine ops_call0 hs25 (by kernel_rfl) (image_walk (tc := tc) (ht := (hs25.oldCells ht)) (hm := h29) B _) ?_
      rintro _ _ w30 ⟨a26, c27, rfl, rfl⟩ hs31
      have hs32 := St.ap1 hs31
      refine ops_run 1 (by kernel_rfl) ?_
      refine ops_done (by kernel_rfl) ?_
      refine hK20 _ _ ?_
      clear hK20
      refine W.seq fun K33 hK33 => ?_
      refine W.region ?_
      refine ops_run 1 (by kernel_rfl) ?_
      refine ops_call0 hs32 (by kernel_rfl) (rsess_spec (i_ := i_.tmod 4) B _) ?_
      rintro _ _ w34 ⟨rfl, rfl⟩ hs35
      have hs36 := St.ap0 hs35
      refine ops_run 1 (by kernel_rfl) ?_
      refine ops_done (by kernel_rfl) ?_
      refine hK33 _ _ ?_
      clear hK33
      refine W.seq_join (fun s_ w_ => ∃ (q37 : List Int), (∃ us, s_ = slots 201 [(2, (.slice ga gs.length gc)), (7, (.int .i64 (i_.tmod 4))), (8, (.slice a26 r28.length c27)), (9, (.int .i64 (sessAt (i_.tmod 4))))] us) ∧ St B w [] w_ [kU64.row a26 c27 q37] ∧ classopens_J1 i_ gs r28 q37 = some true) ?_ ?_
      ·
        rintro _ w38 ⟨q37, ⟨us, rfl⟩, hs39, hm⟩
        unfold classopens_J1 at hm
        refine W.seq fun K40 hK40 => ?_
        refine W.region ?_
        refine ops_run 1 (by kernel_rfl) ?_
        refine ops_done (by kernel_rfl) ?_
        refine hK40 _ _ ?_
        clear hK40
        refine W.seq fun K41 hK41 => ?_
        refine W.region ?_
        refine ops_run 1 (by kernel_rfl) ?_
        refine ops_done (by kernel_rfl) ?_
        refine hK41 _ _ ?_
        clear hK41
        refine W.seq fun K42 hK42 => ?_
        refine W.seq fun K43 hK43 => ?_
        refine W.region ?_
        refine ops_run 1 (by kernel_rfl) ?_
        refine ops_done (by kernel_rfl) ?_
        refine hK43 _ _ ?_
        clear hK43
        refine W.block ?_
        refine W.loop_iter (G := (List Int) × Nat × Int × Bool × Int × (Option Addr) × Nat) (σ := (List Int) × Nat × Int × Bool × Int) (fun | (q46, n47, p48, p49, p50, m44, m45) => (q46, n47, p48, p49, p50)) (fun | (q46, n47, p48, p49, p50, m44, m45), s_, w_ => (∃ us, s_ = slots 201 [(2, (.slice ga gs.length gc)), (7, (.int .i64 (i_.tmod 4))), (8, (.slice m44 n47 m45)), (9, (.int .i64 (sessAt (i_.tmod 4)))), (11, (.int .u64 p48)), (12, (.bool p49)), (13, (.int .i64 p50))] us) ∧ St B w [] w_ [kU64.row m44 m45 q46]) (q37, r28.length, 0, false, 0, a26, c27) ⟨slots_intro _ (by kernel_rfl), hs39⟩ hm ?_
        rintro k51 ih52 ⟨q46, n47, p48, p49, p50, m44, m45⟩ _ w53 ⟨⟨us, rfl⟩, hs54⟩ hm
        replace hm : classopens_B1 i_ gs k51 q46 n47 p48 p49 p50 = some true := hm
        unfold classopens_B1 at hm
        refine W.seq fun K55 hK55 => ?_
        refine W.seq fun K56 hK56 => ?_
        refine W.region ?_
        refine ops_run 4 (by kernel_rfl) ?_
        refine ops_done (by kernel_rfl) ?_
        refine hK56 _ _ ?_
        clear hK56
        refine W.cond (decide (p50 < (gs.length : Int))) (by kernel_rfl) (fun h57 => ?_) (fun h57 => ?_)
        ·
          have h57p : p50 < (gs.length : Int) := of_decide_eq_true h57
          replace hm := ite_yes hm h57p
          refine W.skip ?_
          refine hK55 _ _ ?_
          clear hK55
          refine W.seq fun K58 hK58 => ?_
          refine W.block ?_
          refine W.seq fun K59 hK59 => ?_
          refine W.region ?_
          refine ops_run 1 (by kernel_rfl) ?_
          obtain ⟨h60, hm⟩ := need_some hm
          refine ops_set 58 (v := (.slice m44 q46.length m45)) (Eq.trans (by kernel_rfl) (congrArg (fun n_ => Value.slice m44 n_ m45) h60)) ?_
          obtain ⟨h62, hm⟩ := need_some hm
          refine ops_call0 hs54 (by kernel_rfl) (new_spec (hc := (St.kcells kU64 hs54 0 rfl)) (hn := (St.capnil kU64 hs54 0 rfl)) (hsz := h62) B _) ?_
          rintro _ _ w63 ⟨b61, rfl, rfl⟩ hs64
          have hs65 := St.ap1 hs64
          refine ops_run 1 (by kernel_rfl) ?_
          refine ops_done (by kernel_rfl) ?_
          refine hK59 _ _ ?_
          clear hK59
          refine W.seq fun K66 hK66 => ?_
          refine W.seq fun K67 hK67 => ?_
          refine W.region ?_
          refine ops_run 2 (by kernel_rfl) ?_
          refine ops_done (by kernel_rfl) ?_
          refine hK67 _ _ ?_
          clear hK67
          refine W.cond_false false (by kernel_rfl) rfl ?_
          refine W.skip ?_
          refine hK66 _ _ ?_
          clear hK66
          refine W.seq fun K68 hK68 => ?_
          refine W.region ?_
          refine ops_run 2 (by kernel_rfl) ?_
          obtain ⟨h70, hm⟩ := need_some hm
          have hk69 := lt_toNat h70
          refine ops_R (runs_index (a := ga) (n := gs.length) (z := p50) (size := 1) p50.toNat (nat_of h70.1) hk69 (kU8.addr (hs65.oldCells hgs) hk69) (by kernel_rfl)) ?_
          refine ops_R (runs_load (ad := ((adr ga (p50.toNat * 1)).add 0)) (v := (.int .u8 (gs.getD p50.toNat 0))) (by kernel_rfl) (kU8.at (hs65.oldCells hgs) hk69 0 0 rfl)) ?_
          obtain ⟨h71, hm⟩ := need_some hm
          refine ops_R (v := .int .u8 ((gs.getD p50.toNat 0).tdiv 2)) (runs_quo (k := .u8) (a := (gs.getD p50.toNat 0)) (b := 2) (by kernel_rfl) (by decide) (wrap_u8 h71.1 (Int.lt_of_le_of_lt h71.2 (by decide)))) ?_
          obtain ⟨h72, hm⟩ := need_some hm
          refine ops_val (v := .int .u64 (IntKind.u64.wrap ((gs.getD p50.toNat 0).tdiv 2))) (v' := .int .u64 ((gs.getD p50.toNat 0).tdiv 2)) (by kernel_rfl) (congrArg (Value.int .u64) (wrap_u64 h72.1 (Int.lt_of_le_of_lt h72.2 (by decide)))) ?_
          refine ops_run 1 (by kernel_rfl) ?_
          refine ops_val (v := .int .u64 (IntKind.u64.wrap (1 + ((gs.getD p50.toNat 0).tdiv 2).tmod 6))) (v' := .int .u64 ((1 + ((gs.getD p50.toNat 0).tdiv 2).tmod 6) % 18446744073709551616)) (by kernel_rfl) (congrArg (Value.int .u64) (wrap_u64_mod _)) ?_
          refine ops_run 1 (by kernel_rfl) ?_
          obtain ⟨r73, h74, hm⟩ := bind_some hm
          replace h74 := some_inj h74
          refine ops_set 15 (v := .int .u64 r73) (Eq.trans (by kernel_rfl) (congrArg (Value.int .u64) h74)) ?_
          refine ops_done (by kernel_rfl) ?_
          refine hK68 _ _ ?_
          clear hK68
          refine W.seq fun K75 hK75 => ?_
          refine W.region ?_
          refine ops_run 1 (by kernel_rfl) ?_
          refine ops_done (by kernel_rfl) ?_
          refine hK75 _ _ ?_
          clear hK75
          refine W.seq_join (fun s_ w_ => ∃ (p76 : Int) (p77 : Bool) (l78 : List (Int × Int)) (p79 : Int), (∃ us, s_ = slots 201 [(2, (.slice ga gs.length gc)), (7, (.int .i64 (i_.tmod 4))), (8, (.slice m44 n47 m45)), (9, (.int .i64 (sessAt (i_.tmod 4)))), (11, (.int .u64 p76)), (12, (.bool p77)), (13, (.int .i64 p50)), (14, (.pointer (some ⟨b61, 0, none⟩))), (16, (.int .u8 p79))] us) ∧ St B w [] w_ [kU64.row m44 m45 q46, viewA (ptr b61) q46 l78] ∧ classopens_J3 i_ k51 q46 n47 p50 p76 p77 l78 p79 = some true) ?_ ?_
          ·
            rintro _ w80 ⟨p76, p77, l78, p79, ⟨us, rfl⟩, hs81, hm⟩
            unfold classopens_J3 at hm
            refine W.seq_join (fun s_ w_ => (∃ us, s_ = slots 201 [(2, (.slice ga gs.length gc)), (7, (.int .i64 (i_.tmod 4))), (8, (.slice m44 n47 m45)), (9, (.int .i64 (sessAt (i_.tmod 4)))), (11, (.int .u64 p76)), (12, (.bool p77)), (13, (.int .i64 p50)), (14, (.pointer (some ⟨b61, 0, none⟩)))] us) ∧ St B w [] w_ [kU64.row m44 m45 q46, viewA (ptr b61) q46 l78] ∧ classopens_J4 i_ k51 q46 n47 p50 p76 p77 l78 = some true) ?_ ?_
            ·
              rintro _ w82 ⟨⟨us, rfl⟩, hs83, hm⟩
              unfold classopens_J4 at hm
              refine W.seq fun K84 hK84 => ?_
              refine W.region ?_
              refine ops_run 1 (by kernel_rfl) ?_
              refine ops_call0 hs83 (by kernel_rfl) (flat_spec (hv := (hs83.entAt 1 rfl viewA_at)) B _) ?_
              rintro _ _ w87 ⟨a85, c86, rfl, rfl⟩ hs88
              have hs89 := St.ap1 hs88
              refine ops_run 1 (by kernel_rfl) ?_
              refine ops_done (by kernel_rfl) ?_
              refine hK84 _ _ ?_
              clear hK84
              refine W.seq fun K90 hK90 => ?_
              refine W.seq fun K91 hK91 => ?_
              refine W.region ?_
              refine ops_run 5 (by kernel_rfl) ?_
              refine ops_done (by kernel_rfl) ?_
              refine hK91 _ _ ?_
              clear hK91
              refine W.cond (!decide ((((vflat q46 l78).length) : Int) = (n47 : Int))) (by kernel_rfl) (fun h92 => ?_) (fun h92 => ?_)
              rotate_left
              ·
                have h92p : (((vflat q46 l78).length) : Int) = (n47 : Int) := of_decide_eq_true (bnot_false h92)
                replace hm := ite_yes hm h92p
                refine W.skip ?_
                refine hK90 _ _ ?_
                clear hK90
                refine W.seq fun K93 hK93 => ?_
                refine W.seq fun K94 hK94 => ?_
                refine W.region ?_
                refine ops_run 1 (by kernel_rfl) ?_
                refine ops_done (by kernel_rfl) ?_
                refine hK94 _ _ ?_
                clear hK94
                refine W.block ?_
                have hs100 := St.f2 hs89
                have hs101 := St.f1 hs100
                have hs102 := St.f2 hs101
                refine W.loop_iter (G := Int) (σ := Int) (fun | p95 => p95) (fun | p95, s_, w_ => (∃ us, s_ = slots 201 [(2, (.slice ga gs.length gc)), (7, (.int .i64 (i_.tmod 4))), (8, (.slice m44 n47 m45)), (9, (.int .i64 (sessAt (i_.tmod 4)))), (11, (.int .u64 p76)), (12, (.bool p77)), (13, (.int .i64 p50)), (24, (.slice a85 ((vflat q46 l78).length) c86)), (25, (.int .i64 p95))] us) ∧ St B w [] w_ [kU64.row m44 m45 q46, kU64.row a85 c86 (vflat q46 l78), viewA (ptr b61) q46 l78]) 0 ⟨slots_intro _ (by kernel_rfl), hs102⟩ hm ?_
                rintro k96 ih97 p95 _ w98 ⟨⟨us, rfl⟩, hs99⟩ hm
                replace hm : classopens_B2 i_ k51 q46 n47 p50 p76 p77 l78 k96 p95 = some true := hm
                unfold classopens_B2 at hm
                refine W.seq fun K103 hK103 => ?_
                refine W.seq fun K104 hK104 => ?_
                refine W.region ?_
                refine ops_run 4 (by kernel_rfl) ?_
                refine ops_done (by kernel_rfl) ?_
                refine hK104 _ _ ?_
                clear hK104
                refine W.cond (decide (p95 < (n47 : Int))) (by kernel_rfl) (fun h105 => ?_) (fun h105 => ?_)
                ·
                  have h105p : p95 < (n47 : Int) := of_decide_eq_true h105
                  replace hm := ite_yes hm h105p
                  refine W.skip ?_
                  refine hK103 _ _ ?_
                  clear hK103
                  refine W.seq fun K106 hK106 => ?_
                  refine W.block ?_
                  refine W.seq fun K107 hK107 => ?_
                  have hs108 := hs99.drew
                  refine W.regionD [(0, 0), (0, 0), (3, 3), (4, 4), (8, 8), (8, 8), (40, 40), (88, 88), (136, 136), (264, 256), (512, 512), (512, 512), (3584, 3584), (4608, 4608), (512, 512), (512, 512), (49664, 49664), (66048, 66048), (139776, 139776), (262656, 262656)] (fun w_ => St B w [] w_ [kU64.row m44 m45 q46, kU64.row a85 c86 (vflat q46 l78), viewA (ptr b61) q46 l78]) (by kernel_rfl) hs108 ?_
                  refine any_val (v := (.int .i64 p95)) (v' := (.int .i64 p95)) 0 (by kernel_rfl) (fun _ => by kernel_rfl) rfl hs108 ?_
                  refine any_val (v := (.int .i64 (sessAt (i_.tmod 4)))) (v' := (.int .i64 (sessAt (i_.tmod 4)))) 1 (by kernel_rfl) (fun _ => by kernel_rfl) rfl hs108 ?_
                  refine any_val (v := (.bool (decide (p95 < (sessAt (i_.tmod 4)))))) (v' := (.bool (decide (p95 < (sessAt (i_.tmod 4)))))) 2 (by kernel_rfl) (fun _ => by kernel_rfl) rfl hs108 ?_
                  refine any_val (v := (.bool (decide (p95 < (sessAt (i_.tmod 4)))))) (v' := (.bool (decide (p95 < (sessAt (i_.tmod 4)))))) 3 (by kernel_rfl) (fun _ => by kernel_rfl) rfl hs108 ?_
                  rcases Bool.eq_false_or_eq_true (decide (p95 < (sessAt (i_.tmod 4)))) with h109 | h109
                  ·
                    have h109p : p95 < (sessAt (i_.tmod 4)) := of_decide_eq_true h109
                    replace hm := ite_yes hm h109p
                    refine any_set 181 (v := .bool true) (eq_bool_of (by kernel_rfl) h109) ?_
                    refine any_set 182 (v := .bool true) (eq_bool_of (by kernel_rfl) h109) ?_
                    refine any_skip 4 (by kernel_rfl) (by kernel_rfl) hs108 ?_
                    refine any_skip 5 (by kernel_rfl) (by kernel_rfl) hs108 ?_
                    refine any_skip 6 (by kernel_rfl) (by kernel_rfl) hs108 ?_
                    refine any_skip 7 (by kernel_rfl) (by kernel_rfl) hs108 ?_
                    refine any_val (v := (.bool true)) (v' := (.bool true)) 8 (by kernel_rfl) (fun _ => by kernel_rfl) rfl hs108 ?_
                    refine any_val (v := (.bool true)) (v' := (.bool true)) 9 (by kernel_rfl) (fun _ => by kernel_rfl) rfl hs108 ?_
                    refine any_val (v := (.slice a85 ((vflat q46 l78).length) c86)) (v' := (.slice a85 ((vflat q46 l78).length) c86)) 10 (by kernel_rfl) (fun _ => by kernel_rfl) rfl hs108 ?_
                    refine any_val (v := (.int .i64 p95)) (v' := (.int .i64 p95)) 11 (by kernel_rfl) (fun _ => by kernel_rfl) rfl hs108 ?_
                    obtain ⟨h111, hm⟩ := need_some hm
                    have hk110 := lt_toNat h111
                    refine any_R 12 (by kernel_rfl) (fun _ hS_ => runs_index (a := a85) (n := (vflat q46 l78).length) (z := p95) (size := 1) p95.toNat (nat_of h111.1) hk110 (kU64.addr (St.kcells kU64 hs108 1 rfl) hk110) (by kernel_rfl)) hs108 ?_
                    refine any_R 13 (by kernel_rfl) (fun _ hS_ => runs_load (ad := ((adr a85 (p95.toNat * 1)).add 0)) (v := (.int .u64 ((vflat q46 l78).getD p95.toNat 0))) (by kernel_rfl) (kU64.at (St.kcells kU64 hS_ 1 rfl) hk110 0 0 rfl)) hs108 ?_
                    refine any_val (v := (.slice m44 n47 m45)) (v' := (.slice m44 n47 m45)) 14 (by kernel_rfl) (fun _ => by kernel_rfl) rfl hs108 ?_
                    refine any_val (v := (.int .i64 p95)) (v' := (.int .i64 p95)) 15 (by kernel_rfl) (fun _ => by kernel_rfl) rfl hs108 ?_
                    obtain ⟨h113, hm⟩ := need_some hm
                    have hk112 := lt_toNat h113
                    obtain ⟨h115, hm⟩ := need_some hm
                    have hk114 := h115
                    refine any_R 16 (by kernel_rfl) (fun _ hS_ => runs_index (a := m44) (n := n47) (z := p95) (size := 1) p95.toNat (nat_of h113.1) hk112 (kU64.addr (St.kcells kU64 hs108 0 rfl) hk114) (by kernel_rfl)) hs108 ?_
                    refine any_R 17 (by kernel_rfl) (fun _ hS_ => runs_load (ad := ((adr m44 (p95.toNat * 1)).add 0)) (v := (.int .u64 (q46.getD p95.toNat 0))) (by kernel_rfl) (kU64.at (St.kcells kU64 hS_ 0 rfl) hk114 0 0 rfl)) hs108 ?_
                    refine any_val (v := (.bool (!decide (((vflat q46 l78).getD p95.toNat 0) = (q46.getD p95.toNat 0))))) (v' := (.bool (!decide (((vflat q46 l78).getD p95.toNat 0) = (q46.getD p95.toNat 0))))) 18 (by kernel_rfl) (fun _ => by kernel_rfl) rfl hs108 ?_
                    refine any_val (v := (.bool (!decide (((vflat q46 l78).getD p95.toNat 0) = (q46.getD p95.toNat 0))))) (v' := (.bool (!decide (((vflat q46 l78).getD p95.toNat 0) = (q46.getD p95.toNat 0))))) 19 (by kernel_rfl) (fun _ => by kernel_rfl) rfl hs108 ?_
                    refine any_done (by kernel_rfl) ?_
                    refine hK107 _ _ ?_
                    clear hK107
                    refine W.cond (!decide (((vflat q46 l78).getD p95.toNat 0) = (q46.getD p95.toNat 0))) (by kernel_rfl) (fun h116 => ?_) (fun h116 => ?_)
                    rotate_left
                    ·
                      have h116p : ((vflat q46 l78).getD p95.toNat 0) = (q46.getD p95.toNat 0) := of_decide_eq_true (bnot_false h116)
                      replace hm := ite_yes hm h116p
                      refine W.skip ?_
                      refine normal_block ?_
                      refine hK106 _ _ ?_
                      clear hK106
                      refine W.region ?_
                      refine ops_run 1 (by kernel_rfl) ?_
                      obtain ⟨h117, hm⟩ := need_some hm
                      refine ops_val (v := .int .i64 (IntKind.i64.wrap (p95 + 1))) (v' := .int .i64 (p95 + 1)) (by kernel_rfl) (congrArg (Value.int .i64) (wrap_i64 h117.1 h117.2)) ?_
                      refine ops_run 1 (by kernel_rfl) ?_
                      refine ops_done (by kernel_rfl) ?_
                      refine loopAt_next ?_
                      exact ih97 (p95 + 1) _ _ ⟨slots_intro _ (by kernel_rfl), hs108⟩ hm
                    ·
                      have h116p : ¬ (((vflat q46 l78).getD p95.toNat 0) = (q46.getD p95.toNat 0)) := of_decide_eq_false (bnot_true h116)
                      replace hm := ite_no hm h116p
                      refine W.seq fun K118 hK118 => ?_
                      refine W.region ?_
                      refine ops_run 1 (by kernel_rfl) ?_
                      refine ops_done (by kernel_rfl) ?_
                      refine hK118 _ _ ?_
                      clear hK118
                      refine W.ret (ret_block (ret_seq (ret_seq (ret_block (ret_seq (ret_block (ret_seq (ret_seq (ret_block (ret_seq ?_))))))))))
                      have hs119 := St.tk0 hs108
                      refine ret_of (.bool false) (by kernel_rfl) ⟨_, ⟨congrArg Value.bool (some_inj hm), rfl⟩, hs119⟩
                  ·
                    have h109p : ¬ (p95 < (sessAt (i_.tmod 4))) := of_decide_eq_false h109
                    replace hm := ite_no hm h109p
                    refine any_set 181 (v := .bool false) (eq_bool_of (by kernel_rfl) h109) ?_
                    refine any_set 182 (v := .bool false) (eq_bool_of (by kernel_rfl) h109) ?_
                    refine any_val (v := (.int .i64 p95)) (v' := (.int .i64 p95)) 4 (by kernel_rfl) (fun _ => by kernel_rfl) rfl hs108 ?_
                    refine any_val (v := (.int .i64 (sessAt (i_.tmod 4)))) (v' := (.int .i64 (sessAt (i_.tmod 4)))) 5 (by kernel_rfl) (fun _ => by kernel_rfl) rfl hs108 ?_
                    obtain ⟨h120, hm⟩ := need_some hm
                    refine any_val (v := .int .i64 (IntKind.i64.wrap ((sessAt (i_.tmod 4)) + 64))) (v' := .int .i64 ((sessAt (i_.tmod 4)) + 64)) 6 (by kernel_rfl) (fun _ => by kernel_rfl) (congrArg (Value.int .i64) (wrap_i64 h120.1 h120.2)) hs108 ?_
                    refine any_val (v := (.bool (decide (p95 ≥ ((sessAt (i_.tmod 4)) + 64))))) (v' := (.bool (decide (p95 ≥ ((sessAt (i_.tmod 4)) + 64))))) 7 (by kernel_rfl) (fun _ => by kernel_rfl) rfl hs108 ?_
                    refine any_val (v := (.bool (decide (p95 ≥ ((sessAt (i_.tmod 4)) + 64))))) (v' := (.bool (decide (p95 ≥ ((sessAt (i_.tmod 4)) + 64))))) 8 (by kernel_rfl) (fun _ => by kernel_rfl) rfl hs108 ?_
                    refine any_val (v := (.bool (decide (p95 ≥ ((sessAt (i_.tmod 4)) + 64))))) (v' := (.bool (decide (p95 ≥ ((sessAt (i_.tmod 4)) + 64))))) 9 (by kernel_rfl) (fun _ => by kernel_rfl) rfl hs108 ?_
                    rcases Bool.eq_false_or_eq_true (decide (p95 ≥ ((sessAt (i_.tmod 4)) + 64))) with h121 | h121
                    ·
                      have h121p : p95 ≥ ((sessAt (i_.tmod 4)) + 64) := of_decide_eq_true h121
                      replace hm := ite_yes hm h121p
                      refine any_set 186 (v := .bool true) (eq_bool_of (by kernel_rfl) h121) ?_
                      refine any_set 187 (v := .bool true) (eq_bool_of (by kernel_rfl) h121) ?_
                      refine any_set 188 (v := .bool true) (eq_bool_of (by kernel_rfl) h121) ?_
                      refine any_val (v := (.slice a85 ((vflat q46 l78).length) c86)) (v' := (.slice a85 ((vflat q46 l78).length) c86)) 10 (by kernel_rfl) (fun _ => by kernel_rfl) rfl hs108 ?_
                      refine any_val (v := (.int .i64 p95)) (v' := (.int .i64 p95)) 11 (by kernel_rfl) (fun _ => by kernel_rfl) rfl hs108 ?_
                      obtain ⟨h123, hm⟩ := need_some hm
                      have hk122 := lt_toNat h123
                      refine any_R 12 (by kernel_rfl) (fun _ hS_ => runs_index (a := a85) (n := (vflat q46 l78).length) (z := p95) (size := 1) p95.toNat (nat_of h123.1) hk122 (kU64.addr (St.kcells kU64 hs108 1 rfl) hk122) (by kernel_rfl)) hs108 ?_
                      refine any_R 13 (by kernel_rfl) (fun _ hS_ => runs_load (ad := ((adr a85 (p95.toNat * 1)).add 0)) (v := (.int .u64 ((vflat q46 l78).getD p95.toNat 0))) (by kernel_rfl) (kU64.at (St.kcells kU64 hS_ 1 rfl) hk122 0 0 rfl)) hs108 ?_
                      refine any_val (v := (.slice m44 n47 m45)) (v' := (.slice m44 n47 m45)) 14 (by kernel_rfl) (fun _ => by kernel_rfl) rfl hs108 ?_
                      refine any_val (v := (.int .i64 p95)) (v' := (.int .i64 p95)) 15 (by kernel_rfl) (fun _ => by kernel_rfl) rfl hs108 ?_
                      obtain ⟨h125, hm⟩ := need_some hm
                      have hk124 := lt_toNat h125
                      obtain ⟨h127, hm⟩ := need_some hm
                      have hk126 := h127
                      refine any_R 16 (by kernel_rfl) (fun _ hS_ => runs_index (a := m44) (n := n47) (z := p95) (size := 1) p95.toNat (nat_of h125.1) hk124 (kU64.addr (St.kcells kU64 hs108 0 rfl) hk126) (by kernel_rfl)) hs108 ?_
                      refine any_R 17 (by kernel_rfl) (fun _ hS_ => runs_load (ad := ((adr m44 (p95.toNat * 1)).add 0)) (v := (.int .u64 (q46.getD p95.toNat 0))) (by kernel_rfl) (kU64.at (St.kcells kU64 hS_ 0 rfl) hk126 0 0 rfl)) hs108 ?_
                      refine any_val (v := (.bool (!decide (((vflat q46 l78).getD p95.toNat 0) = (q46.getD p95.toNat 0))))) (v' := (.bool (!decide (((vflat q46 l78).getD p95.toNat 0) = (q46.getD p95.toNat 0))))) 18 (by kernel_rfl) (fun _ => by kernel_rfl) rfl hs108 ?_
                      refine any_val (v := (.bool (!decide (((vflat q46 l78).getD p95.toNat 0) = (q46.getD p95.toNat 0))))) (v' := (.bool (!decide (((vflat q46 l78).getD p95.toNat 0) = (q46.getD p95.toNat 0))))) 19 (by kernel_rfl) (fun _ => by kernel_rfl) rfl hs108 ?_
                      refine any_done (by kernel_rfl) ?_
                      refine hK107 _ _ ?_
                      clear hK107
                      refine W.cond (!decide (((vflat q46 l78).getD p95.toNat 0) = (q46.getD p95.toNat 0))) (by kernel_rfl) (fun h128 => ?_) (fun h128 => ?_)
                      rotate_left
                      ·
                        have h128p : ((vflat q46 l78).getD p95.toNat 0) = (q46.getD p95.toNat 0) := of_decide_eq_true (bnot_false h128)
                        replace hm := ite_yes hm h128p
                        refine W.skip ?_
                        refine normal_block ?_
                        refine hK106 _ _ ?_
                        clear hK106
                        refine W.region ?_
                        refine ops_run 1 (by kernel_rfl) ?_
                        obtain ⟨h129, hm⟩ := need_some hm
                        refine ops_val (v := .int .i64 (IntKind.i64.wrap (p95 + 1))) (v' := .int .i64 (p95 + 1)) (by kernel_rfl) (congrArg (Value.int .i64) (wrap_i64 h129.1 h129.2)) ?_
                        refine ops_run 1 (by kernel_rfl) ?_
                        refine ops_done (by kernel_rfl) ?_
                        refine loopAt_next ?_
                        exact ih97 (p95 + 1) _ _ ⟨slots_intro _ (by kernel_rfl), hs108⟩ hm
                      ·
                        have h128p : ¬ (((vflat q46 l78).getD p95.toNat 0) = (q46.getD p95.toNat 0)) := of_decide_eq_false (bnot_true h128)
                        replace hm := ite_no hm h128p
                        refine W.seq fun K130 hK130 => ?_
                        refine W.region ?_
                        refine ops_run 1 (by kernel_rfl) ?_
                        refine ops_done (by kernel_rfl) ?_
                        refine hK130 _ _ ?_
                        clear hK130
                        refine W.ret (ret_block (ret_seq (ret_seq (ret_block (ret_seq (ret_block (ret_seq (ret_seq (ret_block (ret_seq ?_))))))))))
                        have hs131 := St.tk0 hs108
                        refine ret_of (.bool false) (by kernel_rfl) ⟨_, ⟨congrArg Value.bool (some_inj hm), rfl⟩, hs131⟩
                    ·
                      have h121p : ¬ (p95 ≥ ((sessAt (i_.tmod 4)) + 64)) := of_decide_eq_false h121
                      replace hm := ite_no hm h121p
                      refine any_set 186 (v := .bool false) (eq_bool_of (by kernel_rfl) h121) ?_
                      refine any_set 187 (v := .bool false) (eq_bool_of (by kernel_rfl) h121) ?_
                      refine any_set 188 (v := .bool false) (eq_bool_of (by kernel_rfl) h121) ?_
                      refine any_skip 10 (by kernel_rfl) (by kernel_rfl) hs108 ?_
                      refine any_skip 11 (by kernel_rfl) (by kernel_rfl) hs108 ?_
                      refine any_skip 12 (by kernel_rfl) (by kernel_rfl) hs108 ?_
                      refine any_skip 13 (by kernel_rfl) (by kernel_rfl) hs108 ?_
                      refine any_skip 14 (by kernel_rfl) (by kernel_rfl) hs108 ?_
                      refine any_skip 15 (by kernel_rfl) (by kernel_rfl) hs108 ?_
                      refine any_skip 16 (by kernel_rfl) (by kernel_rfl) hs108 ?_
                      refine any_skip 17 (by kernel_rfl) (by kernel_rfl) hs108 ?_
                      refine any_skip 18 (by kernel_rfl) (by kernel_rfl) hs108 ?_
                      refine any_val (v := (.bool false)) (v' := (.bool false)) 19 (by kernel_rfl) (fun _ => by kernel_rfl) rfl hs108 ?_
                      refine any_done (by kernel_rfl) ?_
                      refine hK107 _ _ ?_
                      clear hK107
                      refine W.cond_false false (by kernel_rfl) rfl ?_
                      refine W.skip ?_
                      refine normal_block ?_
                      refine hK106 _ _ ?_
                      clear hK106
                      refine W.region ?_
                      refine ops_run 1 (by kernel_rfl) ?_
                      obtain ⟨h132, hm⟩ := need_some hm
                      refine ops_val (v := .int .i64 (IntKind.i64.wrap (p95 + 1))) (v' := .int .i64 (p95 + 1)) (by kernel_rfl) (congrArg (Value.int .i64) (wrap_i64 h132.1 h132.2)) ?_
                      refine ops_run 1 (by kernel_rfl) ?_
                      refine ops_done (by kernel_rfl) ?_
                      refine loopAt_next ?_
                      exact ih97 (p95 + 1) _ _ ⟨slots_intro _ (by kernel_rfl), hs108⟩ hm
                ·
                  have h105p : ¬ (p95 < (n47 : Int)) := of_decide_eq_false h105
                  replace hm := ite_no hm h105p
                  refine W.exit (exit_seq (exit_seq (exit_here ?_)))
                  refine hK93 _ _ ?_
                  clear hK93
                  refine W.region ?_
                  refine ops_run 2 (by kernel_rfl) ?_
                  refine ops_done (by kernel_rfl) ?_
                  refine normal_block ?_
                  refine hK58 _ _ ?_
                  clear hK58
                  refine W.region ?_
                  refine ops_run 1 (by kernel_rfl) ?_
                  obtain ⟨h133, hm⟩ := need_some hm
                  refine ops_val (v := .int .i64 (IntKind.i64.wrap (p50 + 1))) (v' := .int .i64 (p50 + 1)) (by kernel_rfl) (congrArg (Value.int .i64) (wrap_i64 h133.1 h133.2)) ?_
                  refine ops_run 1 (by kernel_rfl) ?_
                  refine ops_done (by kernel_rfl) ?_
                  have hs134 := St.f1 hs99
                  have hs135 := St.tk1 hs134
                  refine loopAt_next ?_
                  exact ih52 ((vflat q46 l78), (vflat q46 l78).length, p76, p77, (p50 + 1), a85, c86) _ _ ⟨slots_intro _ (by kernel_rfl), hs135⟩ hm
              ·
                have h92p : ¬ ((((vflat q46 l78).length) : Int) = (n47 : Int)) := of_decide_eq_false (bnot_true h92)
                replace hm := ite_no hm h92p
                refine W.seq fun K136 hK136 => ?_
                refine W.region ?_
                refine ops_run 1 (by kernel_rfl) ?_
                refine ops_done (by kernel_rfl) ?_
                refine hK136 _ _ ?_
                clear hK136
                refine W.ret (ret_seq (ret_block (ret_seq (ret_seq (ret_block (ret_seq ?_))))))
                have hs137 := St.tk0 hs89
                refine ret_of (.bool false) (by kernel_rfl) ⟨_, ⟨congrArg Value.bool (some_inj hm), rfl⟩, hs137⟩
            ·
              refine W.seq fun K138 hK138 => ?_
              refine W.region ?_
              refine ops_run 3 (by kernel_rfl) ?_
              rcases Bool.eq_false_or_eq_true (!decide (p79 = 0)) with h139 | h139
              rotate_left
              ·
                have h139p : p79 = 0 := of_decide_eq_true (bnot_false h139)
                replace hm := ite_yes hm h139p
                refine ops_set 160 (v := .bool false) (eq_bool_of (by kernel_rfl) h139) ?_
                refine ops_set 159 (v := .bool false) (eq_bool_of (by kernel_rfl) h139) ?_
                refine ops_run 5 (by kernel_rfl) ?_
                refine ops_done (by kernel_rfl) ?_
                refine hK138 _ _ ?_
                clear hK138
                refine W.cond_false false (by kernel_rfl) rfl ?_
                refine W.skip ?_
                exact ⟨slots_intro _ (by kernel_rfl), hs81, hm⟩
              ·
                have h139p : ¬ (p79 = 0) := of_decide_eq_false (bnot_true h139)
                replace hm := ite_no hm h139p
                refine ops_set 160 (v := .bool true) (eq_bool_of (by kernel_rfl) h139) ?_
                refine ops_set 159 (v := .bool true) (eq_bool_of (by kernel_rfl) h139) ?_
                refine ops_run 1 (by kernel_rfl) ?_
                refine ops_call0 hs81 (by kernel_rfl) (writes_spec (hv := (hs81.entAt 1 rfl viewA_at)) B _) ?_
                rintro _ _ w142 ⟨a140, c141, rfl, rfl⟩ hs143
                have hs144 := St.ap1 hs143
                refine ops_run 3 (by kernel_rfl) ?_
                refine ops_done (by kernel_rfl) ?_
                refine hK138 _ _ ?_
                clear hK138
                refine W.cond (decide ((l78.length : Int) > 0)) (by kernel_rfl) (fun h145 => ?_) (fun h145 => ?_)
                ·
                  have h145p : (l78.length : Int) > 0 := of_decide_eq_true h145
                  replace hm := ite_yes hm h145p
                  refine W.seq fun K146 hK146 => ?_
                  refine W.region ?_
                  refine ops_run 1 (by kernel_rfl) ?_
                  refine ops_done (by kernel_rfl) ?_
                  refine hK146 _ _ ?_
                  clear hK146
                  refine W.ret (ret_seq (ret_block (ret_seq (ret_seq (ret_block (ret_seq ?_))))))
                  have hs147 := St.tk0 hs144
                  refine ret_of (.bool false) (by kernel_rfl) ⟨_, ⟨congrArg Value.bool (some_inj hm), rfl⟩, hs147⟩
                ·
                  have h145p : ¬ ((l78.length : Int) > 0) := of_decide_eq_false h145
                  replace hm := ite_no hm h145p
                  refine W.skip ?_
                  have hs148 := St.f2 hs144
                  have hs149 := St.f2 hs148
                  have hs150 := St.tk2 hs149
                  exact ⟨slots_intro _ (by kernel_rfl), hs150, hm⟩
          ·
            refine W.seq fun K151 hK151 => ?_
            refine W.region ?_
            refine ops_run 2 (by kernel_rfl) ?_
            obtain ⟨h153, hm⟩ := need_some hm
            have hk152 := lt_toNat h153
            refine ops_R (runs_index (a := ga) (n := gs.length) (z := p50) (size := 1) p50.toNat (nat_of h153.1) hk152 (kU8.addr (hs65.oldCells hgs) hk152) (by kernel_rfl)) ?_
            refine ops_R (runs_load (ad := ((adr ga (p50.toNat * 1)).add 0)) (v := (.int .u8 (gs.getD p50.toNat 0))) (by kernel_rfl) (kU8.at (hs65.oldCells hgs) hk152 0 0 rfl)) ?_
            refine ops_run 2 (by kernel_rfl) ?_
            refine ops_done (by kernel_rfl) ?_
            refine hK151 _ _ ?_
            clear hK151
            refine W.cond (decide ((gs.getD p50.toNat 0).tmod 2 = 0)) (by kernel_rfl) (fun h154 => ?_) (fun h154 => ?_)
            ·
              have h154p : (gs.getD p50.toNat 0).tmod 2 = 0 := of_decide_eq_true h154
              replace hm := ite_yes hm h154p
              refine W.seq fun K155 hK155 => ?_
              refine W.region ?_
              refine ops_run 3 (by kernel_rfl) ?_
              obtain ⟨r156, h157, hm⟩ := bind_some hm
              refine ops_call1 hs65 (by kernel_rfl) (copen_walk (vb := b61) (i_ := i_.tmod 4) (g_ := r73) (img := q46) (l := []) (hG2 := hG2) (hL := (hs65.oldCells hL)) (hm := h157) B _) ?_
              rintro _ _ w158 ⟨rfl, rfl⟩ hs159
              have hs160 := St.ap1 hs159
              refine ops_run 5 (by kernel_rfl) ?_
              refine ops_done (by kernel_rfl) ?_
              refine hK155 _ _ ?_
              clear hK155
              refine W.seq_join (fun s_ w_ => ∃ (p161 : Int) (p162 : Bool) (p163 : Int), (∃ us, s_ = slots 201 [(2, (.slice ga gs.length gc)), (7, (.int .i64 (i_.tmod 4))), (8, (.slice m44 n47 m45)), (9, (.int .i64 (sessAt (i_.tmod 4)))), (11, (.int .u64 p161)), (12, (.bool p162)), (13, (.int .i64 p50)), (14, (.pointer (some ⟨b61, 0, none⟩))), (16, (.int .u8 p163)), (17, (.int .u8 r156.1)), (18, (.int .i64 r156.2.1))] us) ∧ St B w [] w_ [kU64.row m44 m45 q46, viewA (ptr b61) q46 r156.2.2] ∧ classopens_J6 i_ k51 q46 n47 p50 r156 p161 p162 p163 = some true) ?_ ?_
              ·
                rintro _ w164 ⟨p161, p162, p163, ⟨us, rfl⟩, hs165, hm⟩
                unfold classopens_J6 at hm
                refine W.seq fun K166 hK166 => ?_
                refine W.seq fun K167 hK167 => ?_
                refine W.region ?_
                refine ops_run 3 (by kernel_rfl) ?_
                rcases Bool.eq_false_or_eq_true (!decide (r156.2.1 = 0)) with h168 | h168
                rotate_left
                ·
                  have h168p : r156.2.1 = 0 := of_decide_eq_true (bnot_false h168)
                  replace hm := ite_yes hm h168p
                  refine ops_set 106 (v := .bool false) (eq_bool_of (by kernel_rfl) h168) ?_
                  refine ops_set 105 (v := .bool false) (eq_bool_of (by kernel_rfl) h168) ?_
                  refine ops_run 4 (by kernel_rfl) ?_
                  refine ops_done (by kernel_rfl) ?_
                  refine hK167 _ _ ?_
                  clear hK167
                  refine W.cond (!decide (r156.1 = p163)) (by kernel_rfl) (fun h169 => ?_) (fun h169 => ?_)
                  rotate_left
                  ·
                    have h169p : r156.1 = p163 := of_decide_eq_true (bnot_false h169)
                    replace hm := ite_yes hm h169p
                    refine W.skip ?_
                    refine hK166 _ _ ?_
                    clear hK166
                    refine W.seq fun K170 hK170 => ?_
                    refine W.region ?_
                    refine ops_run 3 (by kernel_rfl) ?_
                    obtain ⟨r171, h172, hm⟩ := bind_some hm
                    refine ops_call0 hs165 (by kernel_rfl) (cof_walk (i_ := i_.tmod 4) (g_ := p161) (q_ := 1) (img := q46) (l := r156.2.2) (hL := (hs165.oldCells hL)) (hv := (hs165.entAt 1 rfl viewA_at)) (hm := h172) B _) ?_
                    rintro _ _ w173 ⟨rfl, rfl⟩ hs174
                    have hs175 := St.ap0 hs174
                    refine ops_run 4 (by kernel_rfl) ?_
                    refine ops_new (fun b => .pointer (some ⟨b, 0, none⟩)) (.cells [(.int .i64 0), (.int .u64 0), (.int .u64 0), (.string ByteArray.empty)].toArray 46 (0, 0)) hs175 (by kernel_rfl) (fun b178 w176 hs177 => ?_)
                    refine ops_run 1 (by kernel_rfl) ?_
                    refine ops_store (off := 0) (cs := [(.int .i64 0), (.int .u64 0), (.int .u64 0), (.string ByteArray.empty)]) (vs := [(.int .i64 r171.2.1), (.int .u64 r171.2.2.1), (.int .u64 r171.2.2.2.1), (.string r171.2.2.2.2.1)]) hs177 (by kernel_rfl) (by simp) rfl (fun w179 hs180 => ?_)
                    have hs181 : St B w [] w179 [blk b178 (.cells [(.int .i64 r171.2.1), (.int .u64 r171.2.2.1), (.int .u64 r171.2.2.2.1), (.string r171.2.2.2.2.1)].toArray 46 (0, 0)), kU64.row m44 m45 q46, viewA (ptr b61) q46 r156.2.2] := hs180
                    refine ops_run 1 (by kernel_rfl) ?_
                    refine ops_done (by kernel_rfl) ?_
                    refine hK170 _ _ ?_
                    clear hK170
                    refine W.seq fun K182 hK182 => ?_
                    refine W.region ?_
                    refine ops_run 3 (by kernel_rfl) ?_
                    rcases Bool.eq_false_or_eq_true (decide (p163 = 0)) with h183 | h183
                    ·
                      have h183p : p163 = 0 := of_decide_eq_true h183
                      replace hm := ite_yes hm h183p
                      refine ops_set 121 (v := .bool true) (eq_bool_of (by kernel_rfl) h183) ?_
                      refine ops_set 120 (v := .bool true) (eq_bool_of (by kernel_rfl) h183) ?_
                      refine ops_run 3 (by kernel_rfl) ?_
                      rcases Bool.eq_false_or_eq_true (!decide (r171.2.2.2.2.2 = 0)) with h184 | h184
                      rotate_left
                      ·
                        have h184p : r171.2.2.2.2.2 = 0 := of_decide_eq_true (bnot_false h184)
                        replace hm := ite_yes hm h184p
                        refine ops_set 124 (v := .bool false) (eq_bool_of (by kernel_rfl) h184) ?_
                        refine ops_set 123 (v := .bool false) (eq_bool_of (by kernel_rfl) h184) ?_
                        refine ops_run 4 (by kernel_rfl) ?_
                        refine ops_done (by kernel_rfl) ?_
                        refine hK182 _ _ ?_
                        clear hK182
                        refine W.cond (!decide (r171.1 = 0)) (by kernel_rfl) (fun h185 => ?_) (fun h185 => ?_)
                        rotate_left
                        ·
                          have h185p : r171.1 = 0 := of_decide_eq_true (bnot_false h185)
                          replace hm := ite_yes hm h185p
                          refine W.skip ?_
                          have hs186 := St.f2 hs181
                          have hs187 := St.f2 hs186
                          have hs188 := St.tk2 hs187
                          exact ⟨p161, p162, r156.2.2, p163, slots_intro _ (by kernel_rfl), hs188, hm⟩
                        ·
                          have h185p : ¬ (r171.1 = 0) := of_decide_eq_false (bnot_true h185)
                          replace hm := ite_no hm h185p
                          refine W.seq fun K189 hK189 => ?_
                          refine W.region ?_
                          refine ops_run 1 (by kernel_rfl) ?_
                          refine ops_done (by kernel_rfl) ?_
                          refine hK189 _ _ ?_
                          clear hK189
                          refine W.ret (ret_seq (ret_block (ret_seq (ret_seq (ret_block (ret_seq ?_))))))
                          have hs190 := St.tk0 hs181
                          refine ret_of (.bool false) (by kernel_rfl) ⟨_, ⟨congrArg Value.bool (some_inj hm), rfl⟩, hs190⟩
                      ·
                        have h184p : ¬ (r171.2.2.2.2.2 = 0) := of_decide_eq_false (bnot_true h184)
                        replace hm := ite_no hm h184p
                        refine ops_set 124 (v := .bool true) (eq_bool_of (by kernel_rfl) h184) ?_
                        refine ops_set 123 (v := .bool true) (eq_bool_of (by kernel_rfl) h184) ?_
                        refine ops_run 4 (by kernel_rfl) ?_
                        refine ops_done (by kernel_rfl) ?_
                        refine hK182 _ _ ?_
                        clear hK182
                        refine W.cond_true true (by kernel_rfl) rfl ?_
                        refine W.seq fun K191 hK191 => ?_
                        refine W.region ?_
                        refine ops_run 1 (by kernel_rfl) ?_
                        refine ops_done (by kernel_rfl) ?_
                        refine hK191 _ _ ?_
                        clear hK191
                        refine W.ret (ret_seq (ret_block (ret_seq (ret_seq (ret_block (ret_seq ?_))))))
                        have hs192 := St.tk0 hs181
                        refine ret_of (.bool false) (by kernel_rfl) ⟨_, ⟨congrArg Value.bool (some_inj hm), rfl⟩, hs192⟩
                    ·
                      have h183p : ¬ (p163 = 0) := of_decide_eq_false h183
                      replace hm := ite_no hm h183p
                      refine ops_set 121 (v := .bool false) (eq_bool_of (by kernel_rfl) h183) ?_
                      refine ops_set 120 (v := .bool false) (eq_bool_of (by kernel_rfl) h183) ?_
                      refine ops_run 7 (by kernel_rfl) ?_
                      refine ops_done (by kernel_rfl) ?_
                      refine hK182 _ _ ?_
                      clear hK182
                      refine W.cond_false false (by kernel_rfl) rfl ?_
                      refine W.skip ?_
                      have hs193 := St.f2 hs181
                      have hs194 := St.f2 hs193
                      have hs195 := St.tk2 hs194
                      exact ⟨p161, p162, r156.2.2, p163, slots_intro _ (by kernel_rfl), hs195, hm⟩
                  ·
                    have h169p : ¬ (r156.1 = p163) := of_decide_eq_false (bnot_true h169)
                    replace hm := ite_no hm h169p
                    refine W.seq fun K196 hK196 => ?_
                    refine W.region ?_
                    refine ops_run 1 (by kernel_rfl) ?_
                    refine ops_done (by kernel_rfl) ?_
                    refine hK196 _ _ ?_
                    clear hK196
                    refine W.ret (ret_seq (ret_seq (ret_block (ret_seq (ret_seq (ret_block (ret_seq ?_)))))))
                    have hs197 := St.tk0 hs165
                    refine ret_of (.bool false) (by kernel_rfl) ⟨_, ⟨congrArg Value.bool (some_inj hm), rfl⟩, hs197⟩
                ·
                  have h168p : ¬ (r156.2.1 = 0) := of_decide_eq_false (bnot_true h168)
                  replace hm := ite_no hm h168p
                  refine ops_set 106 (v := .bool true) (eq_bool_of (by kernel_rfl) h168) ?_
                  refine ops_set 105 (v := .bool true) (eq_bool_of (by kernel_rfl) h168) ?_
                  refine ops_run 4 (by kernel_rfl) ?_
                  refine ops_done (by kernel_rfl) ?_
                  refine hK167 _ _ ?_
                  clear hK167
                  refine W.cond_true true (by kernel_rfl) rfl ?_
                  refine W.seq fun K198 hK198 => ?_
                  refine W.region ?_
                  refine ops_run 1 (by kernel_rfl) ?_
                  refine ops_done (by kernel_rfl) ?_
                  refine hK198 _ _ ?_
                  clear hK198
                  refine W.ret (ret_seq (ret_seq (ret_block (ret_seq (ret_seq (ret_block (ret_seq ?_)))))))
                  have hs199 := St.tk0 hs165
                  refine ret_of (.bool false) (by kernel_rfl) ⟨_, ⟨congrArg Value.bool (some_inj hm), rfl⟩, hs199⟩
              ·
                refine W.block ?_
                refine W.seq_join (fun s_ w_ => ∃ (p200 : Bool) (p201 : Bool), (∃ us, s_ = slots 201 [(2, (.slice ga gs.length gc)), (7, (.int .i64 (i_.tmod 4))), (8, (.slice m44 n47 m45)), (9, (.int .i64 (sessAt (i_.tmod 4)))), (11, (.int .u64 p48)), (12, (.bool p200)), (13, (.int .i64 p50)), (14, (.pointer (some ⟨b61, 0, none⟩))), (15, (.int .u64 r73)), (16, (.int .u8 3)), (17, (.int .u8 r156.1)), (18, (.int .i64 r156.2.1)), (83, (.bool p201))] us) ∧ St B w [] w_ [kU64.row m44 m45 q46, viewA (ptr b61) q46 r156.2.2] ∧ classopens_J7 i_ k51 q46 n47 p48 p50 r73 r156 p200 p201 = some true) ?_ ?_
                ·
                  rintro _ w202 ⟨p200, p201, ⟨us, rfl⟩, hs203, hm⟩
                  unfold classopens_J7 at hm
                  refine W.cond p201 (by kernel_rfl) (fun h204 => ?_) (fun h204 => ?_)
                  ·
                    have h204p : p201 = true := h204
                    replace hm := ite_yes hm h204p
                    refine W.region ?_
                    refine ops_run 1 (by kernel_rfl) ?_
                    refine ops_done (by kernel_rfl) ?_
                    refine normal_block ?_
                    exact ⟨p48, p200, 1, slots_intro _ (by kernel_rfl), hs203, hm⟩
                  ·
                    have h204p : ¬ (p201 = true) := ne_true_of_eq_false h204
                    replace hm := ite_no hm h204p
                    refine W.seq fun K205 hK205 => ?_
                    refine W.region ?_
                    refine ops_run 4 (by kernel_rfl) ?_
                    refine ops_done (by kernel_rfl) ?_
                    refine hK205 _ _ ?_
                    clear hK205
                    refine W.cond (decide (r73 ≤ p48)) (by kernel_rfl) (fun h206 => ?_) (fun h206 => ?_)
                    ·
                      have h206p : r73 ≤ p48 := of_decide_eq_true h206
                      replace hm := ite_yes hm h206p
                      refine W.region ?_
                      refine ops_run 1 (by kernel_rfl) ?_
                      refine ops_done (by kernel_rfl) ?_
                      refine normal_block ?_
                      exact ⟨p48, p200, 2, slots_intro _ (by kernel_rfl), hs203, hm⟩
                    ·
                      have h206p : ¬ (r73 ≤ p48) := of_decide_eq_false h206
                      replace hm := ite_no hm h206p
                      refine W.seq_join (fun s_ w_ => ∃ (p207 : Bool), (∃ us, s_ = slots 201 [(2, (.slice ga gs.length gc)), (7, (.int .i64 (i_.tmod 4))), (8, (.slice m44 n47 m45)), (9, (.int .i64 (sessAt (i_.tmod 4)))), (11, (.int .u64 p48)), (12, (.bool p200)), (13, (.int .i64 p50)), (14, (.pointer (some ⟨b61, 0, none⟩))), (15, (.int .u64 r73)), (16, (.int .u8 3)), (17, (.int .u8 r156.1)), (18, (.int .i64 r156.2.1)), (94, (.bool p207))] us) ∧ St B w [] w_ [kU64.row m44 m45 q46, viewA (ptr b61) q46 r156.2.2] ∧ classopens_J8 i_ k51 q46 n47 p48 p50 r73 r156 p200 p207 = some true) ?_ ?_
                      ·
                        rintro _ w208 ⟨p207, ⟨us, rfl⟩, hs209, hm⟩
                        unfold classopens_J8 at hm
                        refine W.cond p207 (by kernel_rfl) (fun h210 => ?_) (fun h210 => ?_)
                        ·
                          have h210p : p207 = true := h210
                          replace hm := ite_yes hm h210p
                          refine W.seq fun K211 hK211 => ?_
                          refine W.region ?_
                          refine ops_run 1 (by kernel_rfl) ?_
                          refine ops_done (by kernel_rfl) ?_
                          refine hK211 _ _ ?_
                          clear hK211
                          refine W.seq fun K212 hK212 => ?_
                          refine W.region ?_
                          refine ops_run 1 (by kernel_rfl) ?_
                          refine ops_done (by kernel_rfl) ?_
                          refine hK212 _ _ ?_
                          clear hK212
                          refine W.region ?_
                          refine ops_run 2 (by kernel_rfl) ?_
                          refine ops_done (by kernel_rfl) ?_
                          refine normal_block ?_
                          exact ⟨r73, true, 0, slots_intro _ (by kernel_rfl), hs209, hm⟩
                        ·
                          have h210p : ¬ (p207 = true) := ne_true_of_eq_false h210
                          replace hm := ite_no hm h210p
                          refine W.skip ?_
                          refine normal_block ?_
                          exact ⟨p48, p200, 3, slots_intro _ (by kernel_rfl), hs209, hm⟩
                      ·
                        refine W.region ?_
                        refine ops_run 3 (by kernel_rfl) ?_
                        rcases Bool.eq_false_or_eq_true (!p200) with h213 | h213
                        rotate_left
                        ·
                          have h213p : p200 = true := (bnot_false h213)
                          replace hm := ite_yes hm h213p
                          refine ops_set 97 (v := .bool false) (eq_bool_of (by kernel_rfl) h213) ?_
                          refine ops_set 96 (v := .bool false) (eq_bool_of (by kernel_rfl) h213) ?_
                          refine ops_run 6 (by kernel_rfl) ?_
                          refine ops_done (by kernel_rfl) ?_
                          exact ⟨false, slots_intro _ (by kernel_rfl), hs203, hm⟩
                        ·
                          have h213p : ¬ (p200 = true) := ne_true_of_eq_false (bnot_true h213)
                          replace hm := ite_no hm h213p
                          refine ops_set 97 (v := .bool true) (eq_bool_of (by kernel_rfl) h213) ?_
                          refine ops_set 96 (v := .bool true) (eq_bool_of (by kernel_rfl) h213) ?_
                          refine ops_run 2 (by kernel_rfl) ?_
                          refine ops_val (v := .int .u64 (IntKind.u64.wrap (p48 + 1))) (v' := .int .u64 ((p48 + 1) % 18446744073709551616)) (by kernel_rfl) (congrArg (Value.int .u64) (wrap_u64_mod _)) ?_
                          refine ops_run 3 (by kernel_rfl) ?_
                          refine ops_done (by kernel_rfl) ?_
                          exact ⟨(decide (r73 = ((p48 + 1) % 18446744073709551616))), slots_intro _ (by kernel_rfl), hs203, hm⟩
                ·
                  refine W.region ?_
                  refine ops_run 2 (by kernel_rfl) ?_
                  rcases Bool.eq_false_or_eq_true p49 with h214 | h214
                  ·
                    have h214p : p49 = true := h214
                    replace hm := ite_yes hm h214p
                    refine ops_set 85 (v := .bool true) (eq_bool_of (by kernel_rfl) h214) ?_
                    refine ops_set 12 (v := .bool true) (eq_bool_of (by kernel_rfl) h214) ?_
                    refine ops_set 84 (v := .bool true) (eq_bool_of (by kernel_rfl) h214) ?_
                    refine ops_run 5 (by kernel_rfl) ?_
                    refine ops_done (by kernel_rfl) ?_
                    have hs215 := St.f1 hs160
                    exact ⟨true, (decide (r73 = p48)), slots_intro _ (by kernel_rfl), hs215, hm⟩
                  ·
                    have h214p : ¬ (p49 = true) := ne_true_of_eq_false h214
                    replace hm := ite_no hm h214p
                    refine ops_set 85 (v := .bool false) (eq_bool_of (by kernel_rfl) h214) ?_
                    refine ops_set 12 (v := .bool false) (eq_bool_of (by kernel_rfl) h214) ?_
                    refine ops_set 84 (v := .bool false) (eq_bool_of (by kernel_rfl) h214) ?_
                    refine ops_run 5 (by kernel_rfl) ?_
                    refine ops_done (by kernel_rfl) ?_
                    have hs216 := St.f1 hs160
                    exact ⟨false, false, slots_intro _ (by kernel_rfl), hs216, hm⟩
            ·
              have h154p : ¬ ((gs.getD p50.toNat 0).tmod 2 = 0) := of_decide_eq_false h154
              replace hm := ite_no hm h154p
              refine W.seq fun K217 hK217 => ?_
              refine W.region ?_
              refine ops_run 3 (by kernel_rfl) ?_
              obtain ⟨r218, h219, hm⟩ := bind_some hm
              refine ops_call1 hs65 (by kernel_rfl) (cclose_walk (vb := b61) (i_ := i_.tmod 4) (g_ := r73) (img := q46) (l := []) (hG2 := hG2) (hL := (hs65.oldCells hL)) (hm := h219) B _) ?_
              rintro _ _ w220 ⟨rfl, rfl⟩ hs221
              have hs222 := St.ap1 hs221
              refine ops_run 5 (by kernel_rfl) ?_
              refine ops_done (by kernel_rfl) ?_
              refine hK217 _ _ ?_
              clear hK217
              refine W.seq_join (fun s_ w_ => ∃ (p223 : Bool) (p224 : Int), (∃ us, s_ = slots 201 [(2, (.slice ga gs.length gc)), (7, (.int .i64 (i_.tmod 4))), (8, (.slice m44 n47 m45)), (9, (.int .i64 (sessAt (i_.tmod 4)))), (11, (.int .u64 p48)), (12, (.bool p223)), (13, (.int .i64 p50)), (14, (.pointer (some ⟨b61, 0, none⟩))), (16, (.int .u8 p224)), (22, (.int .u8 r218.1)), (23, (.int .i64 r218.2.1))] us) ∧ St B w [] w_ [kU64.row m44 m45 q46, viewA (ptr b61) q46 r218.2.2] ∧ classopens_J9 i_ k51 q46 n47 p48 p50 r218 p223 p224 = some true) ?_ ?_
              ·
                rintro _ w225 ⟨p223, p224, ⟨us, rfl⟩, hs226, hm⟩
                unfold classopens_J9 at hm
                refine W.seq fun K227 hK227 => ?_
                refine W.region ?_
                refine ops_run 3 (by kernel_rfl) ?_
                rcases Bool.eq_false_or_eq_true (!decide (r218.2.1 = 0)) with h228 | h228
                rotate_left
                ·
                  have h228p : r218.2.1 = 0 := of_decide_eq_true (bnot_false h228)
                  replace hm := ite_yes hm h228p
                  refine ops_set 153 (v := .bool false) (eq_bool_of (by kernel_rfl) h228) ?_
                  refine ops_set 152 (v := .bool false) (eq_bool_of (by kernel_rfl) h228) ?_
                  refine ops_run 4 (by kernel_rfl) ?_
                  refine ops_done (by kernel_rfl) ?_
                  refine hK227 _ _ ?_
                  clear hK227
                  refine W.cond (!decide (r218.1 = p224)) (by kernel_rfl) (fun h229 => ?_) (fun h229 => ?_)
                  rotate_left
                  ·
                    have h229p : r218.1 = p224 := of_decide_eq_true (bnot_false h229)
                    replace hm := ite_yes hm h229p
                    refine W.skip ?_
                    exact ⟨p48, p223, r218.2.2, p224, slots_intro _ (by kernel_rfl), hs226, hm⟩
                  ·
                    have h229p : ¬ (r218.1 = p224) := of_decide_eq_false (bnot_true h229)
                    replace hm := ite_no hm h229p
                    refine W.seq fun K230 hK230 => ?_
                    refine W.region ?_
                    refine ops_run 1 (by kernel_rfl) ?_
                    refine ops_done (by kernel_rfl) ?_
                    refine hK230 _ _ ?_
                    clear hK230
                    refine W.ret (ret_seq (ret_block (ret_seq (ret_seq (ret_block (ret_seq ?_))))))
                    have hs231 := St.tk0 hs226
                    refine ret_of (.bool false) (by kernel_rfl) ⟨_, ⟨congrArg Value.bool (some_inj hm), rfl⟩, hs231⟩
                ·
                  have h228p : ¬ (r218.2.1 = 0) := of_decide_eq_false (bnot_true h228)
                  replace hm := ite_no hm h228p
                  refine ops_set 153 (v := .bool true) (eq_bool_of (by kernel_rfl) h228) ?_
                  refine ops_set 152 (v := .bool true) (eq_bool_of (by kernel_rfl) h228) ?_
                  refine ops_run 4 (by kernel_rfl) ?_
                  refine ops_done (by kernel_rfl) ?_
                  refine hK227 _ _ ?_
                  clear hK227
                  refine W.cond_true true (by kernel_rfl) rfl ?_
                  refine W.seq fun K232 hK232 => ?_
                  refine W.region ?_
                  refine ops_run 1 (by kernel_rfl) ?_
                  refine ops_done (by kernel_rfl) ?_
                  refine hK232 _ _ ?_
                  clear hK232
                  refine W.ret (ret_seq (ret_block (ret_seq (ret_seq (ret_block (ret_seq ?_))))))
                  have hs233 := St.tk0 hs226
                  refine ret_of (.bool false) (by kernel_rfl) ⟨_, ⟨congrArg Value.bool (some_inj hm), rfl⟩, hs233⟩
              ·
                refine W.block ?_
                refine W.seq fun K234 hK234 => ?_
                refine W.region ?_
                refine ops_run 4 (by kernel_rfl) ?_
                refine ops_done (by kernel_rfl) ?_
                refine hK234 _ _ ?_
                clear hK234
                refine W.cond (decide (r73 < p48)) (by kernel_rfl) (fun h235 => ?_) (fun h235 => ?_)
                ·
                  have h235p : r73 < p48 := of_decide_eq_true h235
                  replace hm := ite_yes hm h235p
                  refine W.region ?_
                  refine ops_run 1 (by kernel_rfl) ?_
                  refine ops_done (by kernel_rfl) ?_
                  refine normal_block ?_
                  have hs236 := St.f1 hs222
                  exact ⟨p49, 2, slots_intro _ (by kernel_rfl), hs236, hm⟩
                ·
                  have h235p : ¬ (r73 < p48) := of_decide_eq_false h235
                  replace hm := ite_no hm h235p
                  refine W.seq_join (fun s_ w_ => ∃ (p237 : Bool), (∃ us, s_ = slots 201 [(2, (.slice ga gs.length gc)), (7, (.int .i64 (i_.tmod 4))), (8, (.slice m44 n47 m45)), (9, (.int .i64 (sessAt (i_.tmod 4)))), (11, (.int .u64 p48)), (12, (.bool p49)), (13, (.int .i64 p50)), (14, (.pointer (some ⟨b61, 0, none⟩))), (15, (.int .u64 r73)), (16, (.int .u8 3)), (22, (.int .u8 r218.1)), (23, (.int .i64 r218.2.1)), (140, (.bool p237))] us) ∧ St B w [] w_ [kU64.row m44 m45 q46, viewA (ptr b61) q46 r218.2.2] ∧ classopens_J10 i_ k51 q46 n47 p48 p49 p50 r73 r218 p237 = some true) ?_ ?_
                  ·
                    rintro _ w238 ⟨p237, ⟨us, rfl⟩, hs239, hm⟩
                    unfold classopens_J10 at hm
                    refine W.cond p237 (by kernel_rfl) (fun h240 => ?_) (fun h240 => ?_)
                    ·
                      have h240p : p237 = true := h240
                      replace hm := ite_yes hm h240p
                      refine W.seq fun K241 hK241 => ?_
                      refine W.region ?_
                      refine ops_run 1 (by kernel_rfl) ?_
                      refine ops_done (by kernel_rfl) ?_
                      refine hK241 _ _ ?_
                      clear hK241
                      refine W.region ?_
                      refine ops_run 1 (by kernel_rfl) ?_
                      refine ops_done (by kernel_rfl) ?_
                      refine normal_block ?_
                      exact ⟨false, 0, slots_intro _ (by kernel_rfl), hs239, hm⟩
                    ·
                      have h240p : ¬ (p237 = true) := ne_true_of_eq_false h240
                      replace hm := ite_no hm h240p
                      refine W.seq fun K242 hK242 => ?_
                      refine W.region ?_
                      refine ops_run 4 (by kernel_rfl) ?_
                      refine ops_done (by kernel_rfl) ?_
                      refine hK242 _ _ ?_
                      clear hK242
                      refine W.cond (decide (r73 = p48)) (by kernel_rfl) (fun h243 => ?_) (fun h243 => ?_)
                      ·
                        have h243p : r73 = p48 := of_decide_eq_true h243
                        replace hm := ite_yes hm h243p
                        refine W.region ?_
                        refine ops_run 1 (by kernel_rfl) ?_
                        refine ops_done (by kernel_rfl) ?_
                        refine normal_block ?_
                        exact ⟨p49, 1, slots_intro _ (by kernel_rfl), hs239, hm⟩
                      ·
                        have h243p : ¬ (r73 = p48) := of_decide_eq_false h243
                        replace hm := ite_no hm h243p
                        refine W.skip ?_
                        refine normal_block ?_
                        exact ⟨p49, 3, slots_intro _ (by kernel_rfl), hs239, hm⟩
                  ·
                    refine W.region ?_
                    refine ops_run 4 (by kernel_rfl) ?_
                    rcases Bool.eq_false_or_eq_true (decide (r73 = p48)) with h244 | h244
                    ·
                      have h244p : r73 = p48 := of_decide_eq_true h244
                      replace hm := ite_yes hm h244p
                      refine ops_set 144 (v := .bool true) (eq_bool_of (by kernel_rfl) h244) ?_
                      refine ops_set 143 (v := .bool true) (eq_bool_of (by kernel_rfl) h244) ?_
                      refine ops_run 3 (by kernel_rfl) ?_
                      refine ops_done (by kernel_rfl) ?_
                      have hs245 := St.f1 hs222
                      exact ⟨p49, slots_intro _ (by kernel_rfl), hs245, hm⟩
                    ·
                      have h244p : ¬ (r73 = p48) := of_decide_eq_false h244
                      replace hm := ite_no hm h244p
                      refine ops_set 144 (v := .bool false) (eq_bool_of (by kernel_rfl) h244) ?_
                      refine ops_set 143 (v := .bool false) (eq_bool_of (by kernel_rfl) h244) ?_
                      refine ops_run 3 (by kernel_rfl) ?_
                      refine ops_done (by kernel_rfl) ?_
                      have hs246 := St.f1 hs222
                      exact ⟨false, slots_intro _ (by kernel_rfl), hs246, hm⟩
        ·
          have h57p : ¬ (p50 < (gs.length : Int)) := of_decide_eq_false h57
          replace hm := ite_no hm h57p
          refine W.exit (exit_seq (exit_seq (exit_here ?_)))
          refine hK42 _ _ ?_
          clear hK42
          refine W.seq fun K247 hK247 => ?_
          refine W.region ?_
          obtain ⟨r248, h249, hm⟩ := bind_some hm
          refine ops_call0 hs54 (by kernel_rfl) (works11_walk (hG2 := hG2) (hL := (hs54.oldCells hL)) (hm := h249) B _) ?_
          rintro _ _ w250 ⟨rfl, rfl⟩ hs251
          have hs252 := St.ap0 hs251
          refine ops_run 1 (by kernel_rfl) ?_
          refine ops_done (by kernel_rfl) ?_
          refine hK247 _ _ ?_
          clear hK247
          refine W.ret ?_
          have hs253 := St.tk0 hs252
          refine ret_of (.bool r248) (by kernel_rfl) ⟨_, ⟨congrArg Value.bool (some_inj hm), rfl⟩, hs253⟩
      ·
        refine W.seq fun K254 hK254 => ?_
        refine W.region ?_
        refine ops_run 1 (by kernel_rfl) ?_
        refine ops_done (by kernel_rfl) ?_
        refine hK254 _ _ ?_
        clear hK254
        refine W.block ?_
        refine W.loop_iter (G := (List Int) × Int) (σ := (List Int) × Int) (fun | (q255, p256) => (q255, p256)) (fun | (q255, p256), s_, w_ => (∃ us, s_ = slots 201 [(2, (.slice ga gs.length gc)), (7, (.int .i64 (i_.tmod 4))), (8, (.slice a26 r28.length c27)), (9, (.int .i64 (sessAt (i_.tmod 4)))), (10, (.int .i64 p256))] us) ∧ St B w [] w_ [kU64.row a26 c27 q255]) (r28, 0) ⟨slots_intro _ (by kernel_rfl), hs36⟩ hm ?_
        rintro k257 ih258 ⟨q255, p256⟩ _ w259 ⟨⟨us, rfl⟩, hs260⟩ hm
        replace hm : classopens_B0 i_ gs r28 k257 q255 p256 = some true := hm
        unfold classopens_B0 at hm
        refine W.seq fun K261 hK261 => ?_
        refine W.seq fun K262 hK262 => ?_
        refine W.region ?_
        refine ops_run 2 (by kernel_rfl) ?_
        refine ops_done (by kernel_rfl) ?_
        refine hK262 _ _ ?_
        clear hK262
        refine W.cond (decide (p256 < 64)) (by kernel_rfl) (fun h263 => ?_) (fun h263 => ?_)
        ·
          have h263p : p256 < 64 := of_decide_eq_true h263
          replace hm := ite_yes hm h263p
          refine W.skip ?_
          refine hK261 _ _ ?_
          clear hK261
          refine W.seq fun K264 hK264 => ?_
          refine W.block ?_
          refine W.region ?_
          refine ops_run 3 (by kernel_rfl) ?_
          obtain ⟨h265, hm⟩ := need_some hm
          refine ops_val (v := .int .i64 (IntKind.i64.wrap ((sessAt (i_.tmod 4)) + p256))) (v' := .int .i64 ((sessAt (i_.tmod 4)) + p256)) (by kernel_rfl) (congrArg (Value.int .i64) (wrap_i64 h265.1 h265.2)) ?_
          obtain ⟨h267, hm⟩ := need_some hm
          have hk266 := lt_toNat h267
          obtain ⟨h269, hm⟩ := need_some hm
          have hk268 := h269
          refine ops_R (runs_index (a := a26) (n := r28.length) (z := ((sessAt (i_.tmod 4)) + p256)) (size := 1) (((sessAt (i_.tmod 4)) + p256).toNat) (nat_of h267.1) hk266 (kU64.addr (St.kcells kU64 hs260 0 rfl) hk268) (by kernel_rfl)) ?_
          refine ops_storeK kU64 (j := 0) (vs := [(.int .u64 0)]) 0 0 hs260 hk268 (Nat.le_of_ble_eq_true rfl) (by simp) rfl rfl (by kernel_rfl) (fun w270 hs271 => ?_)
          refine ops_done (by kernel_rfl) ?_
          refine normal_block ?_
          refine hK264 _ _ ?_
          clear hK264
          refine W.region ?_
          refine ops_run 1 (by kernel_rfl) ?_
          obtain ⟨h273, hm⟩ := need_some hm
          refine ops_val (v := .int .i64 (IntKind.i64.wrap (p256 + 1))) (v' := .int .i64 (p256 + 1)) (by kernel_rfl) (congrArg (Value.int .i64) (wrap_i64 h273.1 h273.2)) ?_
          refine ops_run 1 (by kernel_rfl) ?_
          refine ops_done (by kernel_rfl) ?_
          refine loopAt_next ?_
          exact ih258 ((q255.set (((sessAt (i_.tmod 4)) + p256).toNat) 0), (p256 + 1)) _ _ ⟨slots_intro _ (by kernel_rfl), hs271⟩ hm
        ·
          have h263p : ¬ (p256 < 64) := of_decide_eq_false h263
          replace hm := ite_no hm h263p
          refine W.exit (exit_seq (exit_seq (exit_here ?_)))
          exact ⟨q255, slots_intro _ (by kernel_rfl), hs260, hm⟩

end Go.Proofs.YthimamnblklkbaaDoor
