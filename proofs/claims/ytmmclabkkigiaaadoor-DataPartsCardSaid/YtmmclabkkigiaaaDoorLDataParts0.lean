/- Texts, one behind the other: ALdPa, PLdPa. -/
import Derived.Test.YtmmclabkkigiaaaDoorQDN7
set_option linter.unusedVariables false
set_option linter.unusedSimpArgs false
set_option linter.unusedVariables false
set_option maxRecDepth 20000
set_option maxHeartbeats 4000000
namespace Go.Proofs.YtmmclabkkigiaaaDoor
open Go Go.RowKit
set_option linter.unusedSimpArgs false
set_option linter.unusedVariables false

def dataparts_J1 (b_ : Int) (at_ : Int) (f_ : Int) (se_ : Int) (q39 : List Int) : Option (Bool) :=
 (some (igetM q39 ([]) 1 (2 + 1 % 20) (2 + b_ % 60) 2)).bind fun r43 =>
need (0 ≤ at_ ∧ at_ ≤ 18446744073709551615) <|
need (0 ≤ f_ ∧ f_ ≤ 18446744073709551615) <|
need (0 ≤ se_ ∧ se_ ≤ 18446744073709551615) <|
(dRead_M q39 ([]) 1 (2 + 1 % 20) (2 + b_ % 60) 2 at_ f_).bind fun r61 =>
(dRead_M q39 ([]) 1 (2 + 1 % 20) (2 + b_ % 60) 2 ((at_ + f_) % 18446744073709551616) se_).bind fun r68 =>
(dRead_M q39 ([]) 1 (2 + 1 % 20) (2 + b_ % 60) 2 at_ ((f_ + se_) % 18446744073709551616)).bind fun r74 =>
(dRead_M q39 ([]) 1 (2 + 1 % 20) (2 + b_ % 60) 2 ((r43.1.s + at_) % 18446744073709551616) f_).bind fun r80 =>
if r43.2 = 0 then (if r61.2 = 0 then (if r68.2 = 0 then (if r74.2 = 0 then (if r80.2 = 0 then (need (r61.1.size + r68.1.size ≤ 9223372036854775807) <|
if ((r61.1 ++ r68.1).toList == r74.1.toList) = true then (if (r80.1.toList == ByteArray.empty.toList) = true then (need (0 ≤ (r74.1.size : Int) ∧ (r74.1.size : Int) ≤ 18446744073709551615) <|
if (r74.1.size : Int) = (mn (((mx r43.1.s at_) - at_) % 18446744073709551616) ((f_ + se_) % 18446744073709551616)) then ((works14_M).bind fun r101 =>
some r101) else (some false)) else (some false)) else (some false)) else (some false)) else (some false)) else (some false)) else (some false)) else (some false)

def dataparts_B0 (b_ : Int) (ss : List TSt14) (at_ : Int) (f_ : Int) (se_ : Int) (k119 : ((List Int) × Int) → Option (Bool)) (q117 : List Int) (p118 : Int) : Option (Bool) :=
 if p118 < (ss.length : Int) then (if p118 < 5 then (need (0 ≤ p118 ∧ p118 < (ss.length : Int)) <|
need (0 ≤ p118 ∧ p118 < (ss.length : Int)) <|
need (0 ≤ p118 ∧ p118 < (ss.length : Int)) <|
need ((0 : Int) ≤ 0 ∧ (0 : Int) ≤ (mn (((ss.getD p118.toNat dSt14).c4).size : Int) 128) ∧ (mn (((ss.getD p118.toNat dSt14).c4).size : Int) 128) ≤ (((ss.getD p118.toNat dSt14).c4).size : Int)) <|
(dWrite_M q117 ([]) 1 (2 + 1 % 20) (2 + b_ % 60) 2 (((ss.getD p118.toNat dSt14).c2).tmod 768) (((ss.getD p118.toNat dSt14).c4).extract 0 ((mn (((ss.getD p118.toNat dSt14).c4).size : Int) 128).toNat))).bind fun r143 =>
need ((vflat q117 r143.2).length ≤ 17592186044415) <|
need (-9223372036854775808 ≤ (p118 + 1) ∧ (p118 + 1) ≤ 9223372036854775807) <|
k119 ((vflat q117 r143.2), (p118 + 1))) else (dataparts_J1 b_ at_ f_ se_ q117)) else (dataparts_J1 b_ at_ f_ se_ q117)

def dataparts_M (b_ : Int) (ss : List TSt14) (at_ : Int) (f_ : Int) (se_ : Int) : Option (Bool) :=
 (great14_M ss).bind fun r4 =>
if r4 = true then ((works14_M).bind fun r11 =>
some r11) else ((file14_M b_).bind fun r19 =>
need (r19.length ≤ 17592186044415) <|
iter (fun k_ s_ => dataparts_B0 b_ ss at_ f_ se_ k_ s_.1 s_.2) FUEL (r19, 0))

theorem dataparts_walk {b_ : Int} {ss : List TSt14} {at_ : Int} {f_ : Int} {se_ : Int} {sa : Option Addr} {sc : Nat}  (B : Nat) (w : World) (hB : w.heap.size = B) (hT : CellsAt (some ⟨0, 0, none⟩) tab8 w) (hst : CellsAt sa (kSt14.cells ss) w) (hm : dataparts_M b_ ss at_ f_ se_ = some true) : Spec Tryd.prog 10 #[(.int .u8 b_), (.slice sa ss.length sc), (.int .u16 at_), (.int .u16 f_), (.int .u16 se_)] B w [] (fun v H' => v = .bool true ∧ H' = []) := by
 refine spec_Q Tryd.func10 rfl fun hs => ?_
 unfold dataparts_M at hm
 have hG : 0 < B := by rw [← hB]; exact lt_of_cells hT (v := .int .u8 0) (by kernel_rfl)
 refine W.sr fun K1 hK1 => ?_
 refine zE 1 (hK1 _ _ ?_)
 refine W.seq fun K2 hK2 => ?_
 refine W.sr fun K3 hK3 => ?_
 refine zR 1 ?_
 obtain ⟨r4, h5, hm⟩ := bind_some hm
 refine zC00 hs (great14_walk (sc := sc) (hst := (hs.oldCells hst)) (hm := h5) B _) fun w6 hs8 => ?_
 refine zD (hK3 _ _ ?_)
 refine W.cond r4 (by kernel_rfl) (fun h9 => ?_) (fun h9 => ?_)
 ·
  have h9p : r4 = true := h9
  replace hm := ite_yes hm h9p
  refine W.sr fun K10 hK10 => ?_
  obtain ⟨r11, h12, hm⟩ := bind_some hm
  refine zC00 hs8 (works14_walk (hG := hG) (hT := (hs8.oldCells hT)) (hm := h12) B _) fun w13 hs15 => ?_
  refine zE 1 (hK10 _ _ ?_)
  refine W.ret (ret_seq ?_)
  refine ret_of (.bool r11) (by kernel_rfl) ⟨_, ⟨congrArg Value.bool (some_inj hm), rfl⟩, hs15⟩
 ·
  have h9p : ¬ (r4 = true) := ne_true_of_eq_false h9
  replace hm := ite_no hm h9p
  refine W.skip ?_
  refine hK2 _ _ ?_
  refine W.sr fun K16 hK16 => ?_
  refine zR 1 ?_
  obtain ⟨r19, h20, hm⟩ := bind_some hm
  refine ops_call0 hs8 (by kernel_rfl) (file14_walk (b_ := b_) (hm := h20) B _) ?_
  rintro _ _ w21 ⟨a17, c18, rfl, rfl⟩ hs22
  have hs23 := St.ap1 hs22
  refine zR 3 ?_
  refine zN [(.int .i64 0), (.int .i64 0), (.int .i64 0)] 23 hs23 fun b26 w24 hs25 => ?_
  refine ops_store (off := 0) (cs := [(.int .i64 0), (.int .i64 0), (.int .i64 0)]) (vs := [(.int .i64 1), (.int .i64 (2 + 1 % 20)), (.int .i64 (2 + b_ % 60))]) hs25 (by kernel_rfl) (by simp) rfl (fun w27 hs28 => ?_)
  have hs29 : St B w [] w27 [blk b26 (.cells [(.int .i64 1), (.int .i64 (2 + 1 % 20)), (.int .i64 (2 + b_ % 60))].toArray 23 (0, 0)), kU64.row a17 c18 r19] := hs28
  refine zE 1 (hK16 _ _ ?_)
  refine W.sr fun K30 hK30 => ?_
  refine zR 1 ?_
  obtain ⟨h32, hm⟩ := need_some hm
  refine ops_call0 hs29 (by kernel_rfl) (new_spec (hc := (St.kcells kU64 hs29 1 rfl)) (hn := (St.capnil kU64 hs29 1 rfl)) (hsz := h32) B _) ?_
  rintro _ _ w33 ⟨b31, rfl, rfl⟩ hs34
  have hs35 := St.ap1 hs34
  refine zE 1 (hK30 _ _ ?_)
  refine W.seq fun K36 hK36 => ?_
  refine W.sr fun K37 hK37 => ?_
  refine zE 2 (hK37 _ _ ?_)
  refine W.cond_false false (by kernel_rfl) rfl ?_
  refine W.skip ?_
  refine hK36 _ _ ?_
  refine W.seq_join (fun s_ w_ => ∃ (q39 : List Int) (m38 : Nat), (∃ us, s_ = slots 183 [(2, (.int .u16 at_)), (3, (.int .u16 f_)), (4, (.int .u16 se_)), (11, (.pointer (some ⟨b26, 0, none⟩))), (13, (.pointer (some ⟨m38, 0, none⟩)))] us) ∧ St B w [] w_ [blk b26 (.cells [(.int .i64 1), (.int .i64 (2 + 1 % 20)), (.int .i64 (2 + b_ % 60))].toArray 23 (0, 0)), viewA (ptr m38) q39 ([]), kU64.row a17 c18 r19] ∧ dataparts_J1 b_ at_ f_ se_ q39 = some true) ?_ ?_
  ·
   rintro _ w40 ⟨q39, m38, ⟨us, rfl⟩, hs41, hm⟩
   unfold dataparts_J1 at hm
   refine W.sr fun K42 hK42 => ?_
   refine zR 1 ?_
   refine ops_R (runs_loadAgg (ad := ⟨b26, 0, none⟩) (cs := [(.int .i64 1), (.int .i64 (2 + 1 % 20)), (.int .i64 (2 + b_ % 60))]) (by kernel_rfl) (cells_sub (hs41.heapAt 0 rfl) rfl)) ?_
   obtain ⟨r43, h44, hm⟩ := bind_some hm
   replace h44 := some_inj h44
   refine ops_call0 hs41 (by kernel_rfl) (ig_spec (gw := 1) (gi := (2 + 1 % 20)) (gb := (2 + b_ % 60)) (n_ := 2) (hv := (hs41.entAt 1 rfl viewA_at)) B _) ?_
   rintro _ _ w45 ⟨hv47, hH48⟩ hs46
   rw [h44] at hv47
   try rw [h44] at hH48
   subst hv47 hH48
   have hs49 := St.ap0 hs46
   refine zR 3 ?_
   refine zN [(.int .u64 0), (.int .u64 0), (.int .u64 0), (.int .u64 0), (.int .u64 0), (.int .u64 0), (.int .u64 0), (.int .u64 0), (.int .u64 0), (.int .u64 0)] 78 hs49 fun b52 w50 hs51 => ?_
   refine ops_store (off := 0) (cs := [(.int .u64 0), (.int .u64 0), (.int .u64 0), (.int .u64 0), (.int .u64 0), (.int .u64 0), (.int .u64 0), (.int .u64 0), (.int .u64 0), (.int .u64 0)]) (vs := [(.int .u64 r43.1.k), (.int .u64 r43.1.l), (.int .u64 r43.1.o), (.int .u64 r43.1.s), (.int .u64 r43.1.a), (.int .u64 r43.1.b), (.int .u64 r43.1.c), (.int .u64 r43.1.d), (.int .u64 r43.1.e), (.int .u64 r43.1.m)]) hs51 (by kernel_rfl) (by simp) rfl (fun w53 hs54 => ?_)
   have hs55 : St B w [] w53 [blk b52 (.cells [(.int .u64 r43.1.k), (.int .u64 r43.1.l), (.int .u64 r43.1.o), (.int .u64 r43.1.s), (.int .u64 r43.1.a), (.int .u64 r43.1.b), (.int .u64 r43.1.c), (.int .u64 r43.1.d), (.int .u64 r43.1.e), (.int .u64 r43.1.m)].toArray 78 (0, 0)), blk b26 (.cells [(.int .i64 1), (.int .i64 (2 + 1 % 20)), (.int .i64 (2 + b_ % 60))].toArray 23 (0, 0)), viewA (ptr m38) q39 ([]), kU64.row a17 c18 r19] := hs54
   refine zE 1 (hK42 _ _ ?_)
   refine W.sr fun K56 hK56 => ?_
   refine zR 1 ?_
   obtain ⟨h57, hm⟩ := need_some hm
   refine zI _ (wrap_u64 h57.1 (Int.lt_of_le_of_lt h57.2 (by decide))) ?_
   refine zR 1 ?_
   obtain ⟨h58, hm⟩ := need_some hm
   refine zI _ (wrap_u64 h58.1 (Int.lt_of_le_of_lt h58.2 (by decide))) ?_
   refine zR 1 ?_
   obtain ⟨h59, hm⟩ := need_some hm
   refine zI _ (wrap_u64 h59.1 (Int.lt_of_le_of_lt h59.2 (by decide))) ?_
   refine zE 3 (hK56 _ _ ?_)
   refine W.sr fun K60 hK60 => ?_
   refine zR 1 ?_
   refine ops_R (runs_loadAgg (ad := ⟨b26, 0, none⟩) (cs := [(.int .i64 1), (.int .i64 (2 + 1 % 20)), (.int .i64 (2 + b_ % 60))]) (by kernel_rfl) (cells_sub (hs55.heapAt 1 rfl) rfl)) ?_
   refine zR 2 ?_
   obtain ⟨r61, h62, hm⟩ := bind_some hm
   have hs63 := St.f2 hs55
   refine zC11 hs63 (dRead_walk (vb := m38) (img := q39) (l := []) (gw := 1) (gi := (2 + 1 % 20)) (gb := (2 + b_ % 60)) (n_ := 2) (at_ := at_) (sz_ := f_) (hm := h62) B _) fun w64 hs66 => ?_
   refine zE 5 (hK60 _ _ ?_)
   refine W.sr fun K67 hK67 => ?_
   refine zR 1 ?_
   refine ops_R (runs_loadAgg (ad := ⟨b26, 0, none⟩) (cs := [(.int .i64 1), (.int .i64 (2 + 1 % 20)), (.int .i64 (2 + b_ % 60))]) (by kernel_rfl) (cells_sub (hs66.heapAt 2 rfl) rfl)) ?_
   refine zR 2 ?_
   refine ops_val (v := .int .u64 (IntKind.u64.wrap (at_ + f_))) (v' := .int .u64 ((at_ + f_) % 18446744073709551616)) (by kernel_rfl) (congrArg (Value.int .u64) (wrap_u64_mod _)) ?_
   refine zR 1 ?_
   obtain ⟨r68, h69, hm⟩ := bind_some hm
   refine zC11 hs66 (dRead_walk (vb := m38) (img := q39) (l := []) (gw := 1) (gi := (2 + 1 % 20)) (gb := (2 + b_ % 60)) (n_ := 2) (at_ := ((at_ + f_) % 18446744073709551616)) (sz_ := se_) (hm := h69) B _) fun w70 hs72 => ?_
   refine zE 5 (hK67 _ _ ?_)
   refine W.sr fun K73 hK73 => ?_
   refine zR 1 ?_
   refine ops_R (runs_loadAgg (ad := ⟨b26, 0, none⟩) (cs := [(.int .i64 1), (.int .i64 (2 + 1 % 20)), (.int .i64 (2 + b_ % 60))]) (by kernel_rfl) (cells_sub (hs72.heapAt 2 rfl) rfl)) ?_
   refine zR 3 ?_
   refine ops_val (v := .int .u64 (IntKind.u64.wrap (f_ + se_))) (v' := .int .u64 ((f_ + se_) % 18446744073709551616)) (by kernel_rfl) (congrArg (Value.int .u64) (wrap_u64_mod _)) ?_
   obtain ⟨r74, h75, hm⟩ := bind_some hm
   refine zC11 hs72 (dRead_walk (vb := m38) (img := q39) (l := []) (gw := 1) (gi := (2 + 1 % 20)) (gb := (2 + b_ % 60)) (n_ := 2) (at_ := at_) (sz_ := ((f_ + se_) % 18446744073709551616)) (hm := h75) B _) fun w76 hs78 => ?_
   refine zE 5 (hK73 _ _ ?_)
   refine W.sr fun K79 hK79 => ?_
   refine zR 1 ?_
   refine ops_R (runs_loadAgg (ad := ⟨b26, 0, none⟩) (cs := [(.int .i64 1), (.int .i64 (2 + 1 % 20)), (.int .i64 (2 + b_ % 60))]) (by kernel_rfl) (cells_sub (hs78.heapAt 2 rfl) rfl)) ?_
   refine zR 1 ?_
   refine zL ⟨b52, 3, none⟩ (.int .u64 r43.1.s) (hs78.cellAt 1 rfl rfl) ?_
   refine zR 1 ?_
   refine ops_val (v := .int .u64 (IntKind.u64.wrap (r43.1.s + at_))) (v' := .int .u64 ((r43.1.s + at_) % 18446744073709551616)) (by kernel_rfl) (congrArg (Value.int .u64) (wrap_u64_mod _)) ?_
   refine zR 1 ?_
   obtain ⟨r80, h81, hm⟩ := bind_some hm
   refine zC11 hs78 (dRead_walk (vb := m38) (img := q39) (l := []) (gw := 1) (gi := (2 + 1 % 20)) (gb := (2 + b_ % 60)) (n_ := 2) (at_ := ((r43.1.s + at_) % 18446744073709551616)) (sz_ := f_) (hm := h81) B _) fun w82 hs84 => ?_
   refine zE 5 (hK79 _ _ ?_)
   refine W.sr fun K85 hK85 => ?_
   refine zR 3 ?_
   rcases Bool.eq_false_or_eq_true (decide (r43.2 = 0)) with h86 | h86
   ·
    obtain ⟨h86p, hm⟩ := iY hm h86
    refine zS 131 h86 ?_
    refine zS 130 h86 ?_
    refine zR 4 ?_
    rcases Bool.eq_false_or_eq_true (decide (r61.2 = 0)) with h87 | h87
    ·
     obtain ⟨h87p, hm⟩ := iY hm h87
     refine zS 135 h87 ?_
     refine zS 133 h87 ?_
     refine zS 134 h87 ?_
     refine zR 4 ?_
     rcases Bool.eq_false_or_eq_true (decide (r68.2 = 0)) with h88 | h88
     ·
      obtain ⟨h88p, hm⟩ := iY hm h88
      refine zS 139 h88 ?_
      refine zS 137 h88 ?_
      refine zS 138 h88 ?_
      refine zR 4 ?_
      rcases Bool.eq_false_or_eq_true (decide (r74.2 = 0)) with h89 | h89
      ·
       obtain ⟨h89p, hm⟩ := iY hm h89
       refine zS 143 h89 ?_
       refine zS 141 h89 ?_
       refine zS 142 h89 ?_
       refine zR 4 ?_
       rcases Bool.eq_false_or_eq_true (decide (r80.2 = 0)) with h90 | h90
       ·
        obtain ⟨h90p, hm⟩ := iY hm h90
        refine zS 147 h90 ?_
        refine zS 145 h90 ?_
        refine zS 146 h90 ?_
        refine zR 2 ?_
        obtain ⟨h91, hm⟩ := need_some hm
        refine ops_R (v := (.string (r61.1 ++ r68.1))) (runs_strAdd (a := r61.1) (b := r68.1) h91 (by kernel_rfl)) ?_
        refine zR 4 ?_
        rcases Bool.eq_false_or_eq_true ((r61.1 ++ r68.1).toList == r74.1.toList) with h92 | h92
        ·
         have h92p : ((r61.1 ++ r68.1).toList == r74.1.toList) = true := h92
         replace hm := ite_yes hm h92p
         refine zS 154 h92 ?_
         refine zS 152 h92 ?_
         refine zS 153 h92 ?_
         refine zR 4 ?_
         rcases Bool.eq_false_or_eq_true (r80.1.toList == ByteArray.empty.toList) with h93 | h93
         ·
          have h93p : (r80.1.toList == ByteArray.empty.toList) = true := h93
          replace hm := ite_yes hm h93p
          refine zS 158 h93 ?_
          refine zS 156 h93 ?_
          refine zS 157 h93 ?_
          refine zR 2 ?_
          obtain ⟨h94, hm⟩ := need_some hm
          refine zI _ (wrap_u64 h94.1 (Int.lt_of_le_of_lt h94.2 (by decide))) ?_
          refine zR 1 ?_
          refine zL ⟨b52, 3, none⟩ (.int .u64 r43.1.s) (hs84.cellAt 1 rfl rfl) ?_
          refine zR 3 ?_
          refine ops_val (v := .int .u64 (IntKind.u64.wrap ((mx r43.1.s at_) - at_))) (v' := .int .u64 (((mx r43.1.s at_) - at_) % 18446744073709551616)) (by kernel_rfl) (congrArg (Value.int .u64) (wrap_u64_mod _)) ?_
          refine zR 2 ?_
          refine ops_val (v := .int .u64 (IntKind.u64.wrap (f_ + se_))) (v' := .int .u64 ((f_ + se_) % 18446744073709551616)) (by kernel_rfl) (congrArg (Value.int .u64) (wrap_u64_mod _)) ?_
          refine zR 4 ?_
          rcases Bool.eq_false_or_eq_true (decide ((r74.1.size : Int) = (mn (((mx r43.1.s at_) - at_) % 18446744073709551616) ((f_ + se_) % 18446744073709551616)))) with h95 | h95
          ·
           obtain ⟨h95p, hm⟩ := iY hm h95
           refine zS 174 h95 ?_
           refine zS 172 h95 ?_
           refine zS 173 h95 ?_
           refine zR 1 ?_
           refine ops_call0 hs84 (by kernel_rfl) (writes_spec (hv := (hs84.entAt 0 rfl viewA_at)) B _) ?_
           rintro _ _ w98 ⟨a96, c97, rfl, rfl⟩ hs99
           have hs100 := St.ap1 hs99
           refine zR 4 ?_
           obtain ⟨r101, h102, hm⟩ := bind_some hm
           refine zC00 hs100 (works14_walk (hG := hG) (hT := (hs100.oldCells hT)) (hm := h102) B _) fun w103 hs105 => ?_
           refine zE 2 (hK85 _ _ ?_)
           refine W.ret ?_
           have hs106 := St.tk0 hs105
           refine ret_of (.bool r101) (by kernel_rfl) ⟨_, ⟨congrArg Value.bool (some_inj hm), rfl⟩, hs106⟩
          ·
           obtain ⟨h95p, hm⟩ := iN hm h95
           refine zS 174 h95 ?_
           refine zS 172 h95 ?_
           refine zS 173 h95 ?_
           refine zE 9 (hK85 _ _ ?_)
           refine W.ret ?_
           have hs107 := St.tk0 hs84
           refine ret_of (.bool false) (by kernel_rfl) ⟨_, ⟨congrArg Value.bool (some_inj hm), rfl⟩, hs107⟩
         ·
          have h93p : ¬ ((r80.1.toList == ByteArray.empty.toList) = true) := ne_true_of_eq_false h93
          replace hm := ite_no hm h93p
          refine zS 158 h93 ?_
          refine zS 156 h93 ?_
          refine zS 157 h93 ?_
          refine zE 25 (hK85 _ _ ?_)
          refine W.ret ?_
          have hs108 := St.tk0 hs84
          refine ret_of (.bool false) (by kernel_rfl) ⟨_, ⟨congrArg Value.bool (some_inj hm), rfl⟩, hs108⟩
        ·
         have h92p : ¬ (((r61.1 ++ r68.1).toList == r74.1.toList) = true) := ne_true_of_eq_false h92
         replace hm := ite_no hm h92p
         refine zS 154 h92 ?_
         refine zS 152 h92 ?_
         refine zS 153 h92 ?_
         refine zE 29 (hK85 _ _ ?_)
         refine W.ret ?_
         have hs109 := St.tk0 hs84
         refine ret_of (.bool false) (by kernel_rfl) ⟨_, ⟨congrArg Value.bool (some_inj hm), rfl⟩, hs109⟩
       ·
        obtain ⟨h90p, hm⟩ := iN hm h90
        refine zS 147 h90 ?_
        refine zS 145 h90 ?_
        refine zS 146 h90 ?_
        refine zE 36 (hK85 _ _ ?_)
        refine W.ret ?_
        have hs110 := St.tk0 hs84
        refine ret_of (.bool false) (by kernel_rfl) ⟨_, ⟨congrArg Value.bool (some_inj hm), rfl⟩, hs110⟩
      ·
       obtain ⟨h89p, hm⟩ := iN hm h89
       refine zS 143 h89 ?_
       refine zS 141 h89 ?_
       refine zS 142 h89 ?_
       refine zE 40 (hK85 _ _ ?_)
       refine W.ret ?_
       have hs111 := St.tk0 hs84
       refine ret_of (.bool false) (by kernel_rfl) ⟨_, ⟨congrArg Value.bool (some_inj hm), rfl⟩, hs111⟩
     ·
      obtain ⟨h88p, hm⟩ := iN hm h88
      refine zS 139 h88 ?_
      refine zS 137 h88 ?_
      refine zS 138 h88 ?_
      refine zE 44 (hK85 _ _ ?_)
      refine W.ret ?_
      have hs112 := St.tk0 hs84
      refine ret_of (.bool false) (by kernel_rfl) ⟨_, ⟨congrArg Value.bool (some_inj hm), rfl⟩, hs112⟩
    ·
     obtain ⟨h87p, hm⟩ := iN hm h87
     refine zS 135 h87 ?_
     refine zS 133 h87 ?_
     refine zS 134 h87 ?_
     refine zE 48 (hK85 _ _ ?_)
     refine W.ret ?_
     have hs113 := St.tk0 hs84
     refine ret_of (.bool false) (by kernel_rfl) ⟨_, ⟨congrArg Value.bool (some_inj hm), rfl⟩, hs113⟩
   ·
    obtain ⟨h86p, hm⟩ := iN hm h86
    refine zS 131 h86 ?_
    refine zS 130 h86 ?_
    refine zE 52 (hK85 _ _ ?_)
    refine W.ret ?_
    have hs114 := St.tk0 hs84
    refine ret_of (.bool false) (by kernel_rfl) ⟨_, ⟨congrArg Value.bool (some_inj hm), rfl⟩, hs114⟩
  ·
   refine W.sr fun K115 hK115 => ?_
   refine zE 1 (hK115 _ _ ?_)
   refine W.block ?_
   have hs123 := St.f2 hs35
   have hs124 := St.f1 hs123
   have hs125 := St.f2 hs124
   refine W.loop_iter (G := (List Int) × Int × Nat) (σ := (List Int) × Int) (fun | (q117, p118, m116) => (q117, p118)) (fun | (q117, p118, m116), s_, w_ => (∃ us, s_ = slots 183 [(1, (.slice sa ss.length sc)), (2, (.int .u16 at_)), (3, (.int .u16 f_)), (4, (.int .u16 se_)), (11, (.pointer (some ⟨b26, 0, none⟩))), (13, (.pointer (some ⟨m116, 0, none⟩))), (14, (.int .i64 p118))] us) ∧ St B w [] w_ [blk b26 (.cells [(.int .i64 1), (.int .i64 (2 + 1 % 20)), (.int .i64 (2 + b_ % 60))].toArray 23 (0, 0)), viewA (ptr m116) q117 ([]), kU64.row a17 c18 r19]) (r19, 0, b31) ⟨slots_intro _ (by kernel_rfl), hs125⟩ hm ?_
   rintro k119 ih120 ⟨q117, p118, m116⟩ _ w121 ⟨⟨us, rfl⟩, hs122⟩ hm
   replace hm : dataparts_B0 b_ ss at_ f_ se_ k119 q117 p118 = some true := hm
   unfold dataparts_B0 at hm
   refine W.seq fun K126 hK126 => ?_
   refine W.sr fun K127 hK127 => ?_
   refine zR 5 ?_
   rcases Bool.eq_false_or_eq_true (decide (p118 < (ss.length : Int))) with h128 | h128
   ·
    obtain ⟨h128p, hm⟩ := iY hm h128
    refine zS 44 h128 ?_
    refine zS 43 h128 ?_
    refine zE 3 (hK127 _ _ ?_)
    refine W.cond (decide (p118 < 5)) (by kernel_rfl) (fun h129 => ?_) (fun h129 => ?_)
    ·
     obtain ⟨h129p, hm⟩ := iY hm h129
     refine W.skip ?_
     refine hK126 _ _ ?_
     refine W.seq fun K130 hK130 => ?_
     refine W.block ?_
     refine W.seq fun K131 hK131 => ?_
     have hs132 := hs122.drew
     have hs133 := St.f2 hs132
     have hs134 := St.f1 hs133
     have hs135 := St.tk2 hs134
     refine W.regionD [(0, 0), (0, 0), (0, 0), (0, 0), (12, 12), (16, 16), (32, 32), (64, 64), (0, 0), (0, 0), (768, 768), (1024, 1024), (2048, 2048), (0, 0), (0, 0), (24576, 24576), (32768, 32768), (65536, 65536), (131072, 131072), (262144, 262144), (528384, 528384), (1048707, 1048707)] (fun w_ => St B w [] w_ [blk b26 (.cells [(.int .i64 1), (.int .i64 (2 + 1 % 20)), (.int .i64 (2 + b_ % 60))].toArray 23 (0, 0)), kU64.row a17 c18 r19]) (by kernel_rfl) hs135 ?_
     refine any_val (v := (.pointer (some ⟨m116, 0, none⟩))) (v' := (.pointer (some ⟨m116, 0, none⟩))) 0 (by kernel_rfl) (fun _ => by kernel_rfl) rfl hs135 ?_
     refine any_R 1 (by kernel_rfl) (fun _ hS_ => runs_loadAgg (ad := ⟨b26, 0, none⟩) (cs := [(.int .i64 1), (.int .i64 (2 + 1 % 20)), (.int .i64 (2 + b_ % 60))]) (by kernel_rfl) (cells_sub (hS_.heapAt 0 rfl) rfl)) hs135 ?_
     refine any_val (v := (.slice sa ss.length sc)) (v' := (.slice sa ss.length sc)) 2 (by kernel_rfl) (fun _ => by kernel_rfl) rfl hs135 ?_
     refine any_val (v := (.int .i64 p118)) (v' := (.int .i64 p118)) 3 (by kernel_rfl) (fun _ => by kernel_rfl) rfl hs135 ?_
     obtain ⟨h137, hm⟩ := need_some hm
     have hk136 := lt_toNat h137
     refine any_R 4 (by kernel_rfl) (fun _ hS_ => runs_index (a := sa) (n := ss.length) (z := p118) (size := 6) p118.toNat (nat_of h137.1) hk136 (kSt14.addr (hs132.oldCells hst) hk136) (by kernel_rfl)) hs135 ?_
     refine any_val (v := (.pointer (some ((adr sa (p118.toNat * 6)).add 2)))) (v' := (.pointer (some ((adr sa (p118.toNat * 6)).add 2)))) 5 (by kernel_rfl) (fun _ => by kernel_rfl) rfl hs135 ?_
     refine any_R 6 (by kernel_rfl) (fun _ hS_ => runs_load (ad := ((adr sa (p118.toNat * 6)).add 2)) (v := (.int .u64 ((ss.getD p118.toNat dSt14).c2))) (by kernel_rfl) (kSt14.at (hS_.oldCells hst) hk136 dSt14 2 rfl)) hs135 ?_
     refine any_val (v := (.int .u64 (((ss.getD p118.toNat dSt14).c2).tmod 768))) (v' := (.int .u64 (((ss.getD p118.toNat dSt14).c2).tmod 768))) 7 (by kernel_rfl) (fun _ => by kernel_rfl) rfl hs135 ?_
     refine any_val (v := (.slice sa ss.length sc)) (v' := (.slice sa ss.length sc)) 8 (by kernel_rfl) (fun _ => by kernel_rfl) rfl hs135 ?_
     refine any_val (v := (.int .i64 p118)) (v' := (.int .i64 p118)) 9 (by kernel_rfl) (fun _ => by kernel_rfl) rfl hs135 ?_
     obtain ⟨h139, hm⟩ := need_some hm
     have hk138 := lt_toNat h139
     refine any_R 10 (by kernel_rfl) (fun _ hS_ => runs_index (a := sa) (n := ss.length) (z := p118) (size := 6) p118.toNat (nat_of h139.1) hk138 (kSt14.addr (hs132.oldCells hst) hk138) (by kernel_rfl)) hs135 ?_
     refine any_val (v := (.pointer (some ((adr sa (p118.toNat * 6)).add 4)))) (v' := (.pointer (some ((adr sa (p118.toNat * 6)).add 4)))) 11 (by kernel_rfl) (fun _ => by kernel_rfl) rfl hs135 ?_
     refine any_R 12 (by kernel_rfl) (fun _ hS_ => runs_load (ad := ((adr sa (p118.toNat * 6)).add 4)) (v := (.string ((ss.getD p118.toNat dSt14).c4))) (by kernel_rfl) (kSt14.at (hS_.oldCells hst) hk138 dSt14 4 rfl)) hs135 ?_
     refine any_val (v := (.slice sa ss.length sc)) (v' := (.slice sa ss.length sc)) 13 (by kernel_rfl) (fun _ => by kernel_rfl) rfl hs135 ?_
     refine any_val (v := (.int .i64 p118)) (v' := (.int .i64 p118)) 14 (by kernel_rfl) (fun _ => by kernel_rfl) rfl hs135 ?_
     obtain ⟨h141, hm⟩ := need_some hm
     have hk140 := lt_toNat h141
     refine any_R 15 (by kernel_rfl) (fun _ hS_ => runs_index (a := sa) (n := ss.length) (z := p118) (size := 6) p118.toNat (nat_of h141.1) hk140 (kSt14.addr (hs132.oldCells hst) hk140) (by kernel_rfl)) hs135 ?_
     refine any_val (v := (.pointer (some ((adr sa (p118.toNat * 6)).add 4)))) (v' := (.pointer (some ((adr sa (p118.toNat * 6)).add 4)))) 16 (by kernel_rfl) (fun _ => by kernel_rfl) rfl hs135 ?_
     refine any_R 17 (by kernel_rfl) (fun _ hS_ => runs_load (ad := ((adr sa (p118.toNat * 6)).add 4)) (v := (.string ((ss.getD p118.toNat dSt14).c4))) (by kernel_rfl) (kSt14.at (hS_.oldCells hst) hk140 dSt14 4 rfl)) hs135 ?_
     refine any_val (v := (.int .i64 (((ss.getD p118.toNat dSt14).c4).size : Int))) (v' := (.int .i64 (((ss.getD p118.toNat dSt14).c4).size : Int))) 18 (by kernel_rfl) (fun _ => by kernel_rfl) rfl hs135 ?_
     refine any_val (v := (.int .i64 (mn (((ss.getD p118.toNat dSt14).c4).size : Int) 128))) (v' := (.int .i64 (mn (((ss.getD p118.toNat dSt14).c4).size : Int) 128))) 19 (by kernel_rfl) (fun _ => by kernel_rfl) rfl hs135 ?_
     obtain ⟨h142, hm⟩ := need_some hm
     refine any_R (v := (.string (((ss.getD p118.toNat dSt14).c4).extract 0 ((mn (((ss.getD p118.toNat dSt14).c4).size : Int) 128).toNat)))) 20 (by kernel_rfl) (fun _ hS_ => runs_strSlice (b := (ss.getD p118.toNat dSt14).c4) (lo := none) (hi := (some (mn (((ss.getD p118.toNat dSt14).c4).size : Int) 128))) 0 ((mn (((ss.getD p118.toNat dSt14).c4).size : Int) 128).toNat) (.inr ⟨rfl, rfl⟩) (.inl (congrArg some (nat_of (Int.le_trans h142.1 h142.2.1)))) (by omega) (by omega) (by kernel_rfl)) hs135 ?_
     refine any_step 21 (by kernel_rfl) (by kernel_rfl) ?_
     obtain ⟨r143, h144, hm⟩ := bind_some hm
     have hs145 := St.f1 hs132
     refine zC11 hs145 (dWrite_walk (vb := m116) (hG := hG) (hT := (hs132.oldCells hT)) (img := q117) (l := []) (gw := 1) (gi := (2 + 1 % 20)) (gb := (2 + b_ % 60)) (n_ := 2) (at_ := ((ss.getD p118.toNat dSt14).c2).tmod 768) (tx_ := (((ss.getD p118.toNat dSt14).c4).extract 0 ((mn (((ss.getD p118.toNat dSt14).c4).size : Int) 128).toNat))) (hm := h144) B _) fun w146 hs148 => ?_
     have hs149 := St.f2 hs148
     have hs150 := St.f2 hs149
     have hs151 := St.tk2 hs150
     refine ops_done (by kernel_rfl) ⟨hs151, ?_⟩
     refine any_done (by kernel_rfl) ?_
     refine hK131 _ _ ?_
     refine W.sr fun K152 hK152 => ?_
     refine zR 1 ?_
     refine ops_call0 hs148 (by kernel_rfl) (flat_spec (hv := (hs148.entAt 0 rfl viewA_at)) B _) ?_
     rintro _ _ w155 ⟨a153, c154, rfl, rfl⟩ hs156
     have hs157 := St.ap1 hs156
     refine zE 1 (hK152 _ _ ?_)
     refine W.sr fun K158 hK158 => ?_
     refine zR 1 ?_
     obtain ⟨h160, hm⟩ := need_some hm
     refine ops_call0 hs157 (by kernel_rfl) (new_spec (hc := (St.kcells kU64 hs157 0 rfl)) (hn := (St.capnil kU64 hs157 0 rfl)) (hsz := h160) B _) ?_
     rintro _ _ w161 ⟨b159, rfl, rfl⟩ hs162
     have hs163 := St.ap1 hs162
     refine zE 1 (hK158 _ _ ?_)
     refine W.sr fun K164 hK164 => ?_
     refine zE 2 (hK164 _ _ ?_)
     refine W.cond_false false (by kernel_rfl) rfl ?_
     refine W.skip ?_
     refine normal_block ?_
     refine hK130 _ _ ?_
     refine W.region ?_
     refine zR 1 ?_
     obtain ⟨h165, hm⟩ := need_some hm
     refine zI _ (wrap_i64 h165.1 h165.2) ?_
     refine zE 1 ?_
     have hs166 := St.f4 hs163
     have hs167 := St.f1 hs166
     have hs168 := St.f4 hs167
     have hs169 := St.tk3 hs168
     refine loopAt_next ?_
     exact ih120 ((vflat q117 r143.2), (p118 + 1), b159) _ _ ⟨slots_intro _ (by kernel_rfl), hs169⟩ hm
    ·
     obtain ⟨h129p, hm⟩ := iN hm h129
     refine W.exit (exit_seq (exit_seq (exit_here ?_)))
     exact ⟨q117, m116, slots_intro _ (by kernel_rfl), hs122, hm⟩
   ·
    obtain ⟨h128p, hm⟩ := iN hm h128
    refine zS 44 h128 ?_
    refine zS 43 h128 ?_
    refine zE 3 (hK127 _ _ ?_)
    refine W.cond_false false (by kernel_rfl) rfl ?_
    refine W.exit (exit_seq (exit_seq (exit_here ?_)))
    exact ⟨q117, m116, slots_intro _ (by kernel_rfl), hs122, hm⟩

end Go.Proofs.YtmmclabkkigiaaaDoor

namespace Go.Proofs.YtmmclabkkigiaaaDoor
open Go Go.RowKit
set_option linter.unusedVariables false
set_option linter.unusedSimpArgs false

theorem dataparts_law {b_ at_ f_ se_ : Int} {ss : List TSt14} (hb : 0 ≤ b_ ∧ b_ ≤ 255) (hs : ∀ x ∈ ss, good_St14 x) (ha : 0 ≤ at_ ∧ at_ ≤ 65535) (hf : 0 ≤ f_ ∧ f_ ≤ 65535) (hse : 0 ≤ se_ ∧ se_ ≤ 65535) : dataparts_M b_ ss at_ f_ se_ = some true := by
  refine Ok.true ?_
  obtain ⟨gb, hgb⟩ : ∃ gb, gb = 2 + b_ % 60 := ⟨_, rfl⟩
  have hg : 2 ≤ gb ∧ gb ≤ 61 := by omega
  have h0 := Fi.start (gb := gb) (by omega)
  have hl0 := h0.mp.dk.len
  unfold dataparts_M
  refine Ok.bind (great14_any ss) fun r _ => Ok.ite (fun _ => works14_stop) fun _ => Ok.got (file14_eq hb hgb) (Ok.need (by omega) ?_)
  have J1 : ∀ (q : List Int) (sz : Int) (f : Nat → Int) (c : Int), Fi 3 gb q [] sz f c → Ok (· = true) (dataparts_J1 b_ at_ f_ se_ q) := by
    intro q sz f c h
    have hle := h.le
    have hp := h.pos
    unfold dataparts_J1
    rw [show (2 : Int) + 1 % 20 = 3 by omega, ← hgb, h.mp.iget]
    refine Ok.name fun r hr => ?_
    rw [hr]
    simp only
    rw [show (at_ + f_) % 18446744073709551616 = at_ + f_ by omega, show (f_ + se_) % 18446744073709551616 = f_ + se_ by omega, show (sz + at_) % 18446744073709551616 = sz + at_ by omega]
    refine Ok.need (by omega) (Ok.need (by omega) (Ok.need (by omega) ?_))
    refine Ok.got (h.read (by unfold U64; omega) (by unfold U64; omega)) (Ok.got (h.read (by unfold U64; omega) (by unfold U64; omega)) (Ok.got (h.read (by unfold U64; omega) (by unfold U64; omega)) (Ok.got (h.read (by unfold U64; omega) (by unfold U64; omega)) ?_)))
    have e : rdL (dat q [] 3 f) at_.toNat (min f_.toNat (sz - at_).toNat) ++ rdL (dat q [] 3 f) (at_ + f_).toNat (min se_.toNat (sz - (at_ + f_)).toNat) = rdL (dat q [] 3 f) at_.toNat (min (f_ + se_).toNat (sz - at_).toNat) := by
      by_cases hfa : f_ ≤ sz - at_
      · have e2 := rdL_app (dat q [] 3 f) at_.toNat f_.toNat (min se_.toNat (sz - (at_ + f_)).toNat)
        rw [show at_.toNat + f_.toNat = (at_ + f_).toNat by omega] at e2
        rw [show min f_.toNat (sz - at_).toNat = f_.toNat by omega, e2]
        congr 1
        omega
      · rw [show min se_.toNat (sz - (at_ + f_)).toNat = 0 by omega, show rdL (dat q [] 3 f) (at_ + f_).toNat 0 = [] from rfl, List.append_nil]
        congr 1
        omega
    simp only
    refine Ok.yes (by trivial) (Ok.yes (by trivial) (Ok.yes (by trivial) (Ok.yes (by trivial) (Ok.yes (by trivial) (Ok.need (by rw [str_size, str_size, rdL_len, rdL_len]; omega) ?_)))))
    rw [str_app, e]
    refine Ok.yes (by simp) (Ok.yes (txt_nil.2 (by rw [str_size, rdL_len]; omega)) ?_)
    rw [str_size, rdL_len]
    refine Ok.need (by omega) (Ok.yes ?_ works14_stop)
    unfold mn mx
    split <;> split <;> omega
  refine Ok.iter (fun s : List Int × Int => (∃ sz f c, Fi 3 gb s.1 [] sz f c) ∧ 0 ≤ s.2) (fun s => (5 - s.2).toNat) ?_ _ _ ⟨⟨_, _, _, h0⟩, by simp⟩ (fuel_lt (by simp only; omega))
  rintro k ⟨q, p⟩ ⟨⟨sz, f, c, h⟩, h1⟩ ih
  simp only at h h1 ih
  unfold dataparts_B0
  refine Ok.ite (fun hp => ?_) (fun _ => J1 q sz f c h)
  refine Ok.ite (fun hp5 => ?_) (fun _ => J1 q sz f c h)
  have hx := hs _ (getD_in (d := dSt14) (show p.toNat < ss.length by omega))
  unfold good_St14 at hx
  generalize ss.getD p.toNat dSt14 = x at *
  have hn : 0 ≤ mn ((x.c4.size : Int)) 128 ∧ mn ((x.c4.size : Int)) 128 ≤ 128 ∧ mn ((x.c4.size : Int)) 128 ≤ (x.c4.size : Int) := by unfold mn; split <;> omega
  have hes := ext_size x.c4 (mn (x.c4.size : Int) 128).toNat
  have hat : x.c2.tmod 768 = x.c2 % 768 := Int.tmod_eq_emod_of_nonneg (by omega)
  rw [show (2 : Int) + 1 % 20 = 3 by omega, ← hgb, hat]
  obtain ⟨e, m, sz', f', c', w1, w2⟩ := h.write_any (at_ := x.c2 % 768) (by unfold U64; omega) (tx := x.c4.extract 0 (mn (x.c4.size : Int) 128).toNat) (by omega)
  have hfl := w2.flat
  have hll := hfl.mp.dk.len
  refine Ok.need (by omega) (Ok.need (by omega) (Ok.need (by omega) (Ok.need (by omega) (Ok.got w1 (Ok.need (by simp only; omega) (Ok.need (by omega) (ih _ ⟨⟨sz', f', c', hfl⟩, by simp only; omega⟩ (by simp only; omega))))))))
end Go.Proofs.YtmmclabkkigiaaaDoor
