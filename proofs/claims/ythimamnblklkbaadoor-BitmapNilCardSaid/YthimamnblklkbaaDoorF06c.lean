/- Contracts of layer 6, by a program. -/
import Derived.Test.YthimamnblklkbaaDoorF06b
namespace Go.Proofs.YthimamnblklkbaaDoor
open Go Go.RowKit
set_option linter.unusedSimpArgs false
set_option linter.unusedVariables false

set_option maxRecDepth 20000 in
theorem words_spec {mp : Option Addr} (B : Nat) (w : World) : Spec Tryd.prog 91 #[(.pointer mp)] B w [] (fun v H' => ∃ b', v = .func (.func 140) #[] #[ptr b'] ∧ H' = [blk b' (.cells [(.pointer mp)].toArray 22 (0, 0))]) := by
  refine spec_Q Tryd.func91 rfl fun hs => ?_
  refine W.seq fun K1 hK1 => ?_
  refine W.region ?_
  refine ops_new (fun b => .pointer (some ⟨b, 0, none⟩)) (.cells [(.pointer mp)].toArray 22 (0, 0)) hs (by kernel_rfl) (fun b4 w2 hs3 => ?_)
  refine ops_run 1 (by kernel_rfl) ?_
  refine ops_done (by kernel_rfl) ?_
  refine hK1 _ _ ?_
  clear hK1
  refine W.seq fun K5 hK5 => ?_
  refine W.region ?_
  refine ops_run 1 (by kernel_rfl) ?_
  refine ops_run 1 (by kernel_rfl) ?_
  refine ops_done (by kernel_rfl) ?_
  refine hK5 _ _ ?_
  clear hK5
  refine W.ret ?_
  refine ret_of (.func (.func 140) #[] #[(.pointer (some ⟨b4, 0, none⟩))]) (by kernel_rfl) ⟨_, ⟨b4, rfl, rfl⟩, hs3⟩

set_option maxRecDepth 20000 in
theorem words1_nil {cb yl : Nat} {Y : Nat → Asn} {Z : Asn} (B : Nat) (w : World) : Spec Tryd.prog 140 #[(.func (.yield yl) #[] #[]), (.pointer (some ⟨cb, 0, none⟩))] B w [blk cb (.cells [(.pointer none)].toArray 22 (0, 0)), Y 0] (fun v H' => v = .tuple #[] ∧ (H' = [blk cb (.cells [(.pointer none)].toArray 22 (0, 0)), Y 0] ∨ H' = [blk cb (.cells [(.pointer none)].toArray 22 (0, 0)), Z])) := by
  refine spec_W Tryd.func140 rfl fun l0 hs => ?_
  refine W.seq fun K1 hK1 => ?_
  refine W.seq fun K2 hK2 => ?_
  refine W.region ?_
  refine ops_R (runs_load (ad := ⟨cb, 0, none⟩) (v := (.pointer none)) (by kernel_rfl) (hs.cellAt 0 rfl rfl)) ?_
  refine ops_run 1 (by kernel_rfl) ?_
  refine ops_done (by kernel_rfl) ?_
  refine hK2 _ _ ?_
  clear hK2
  refine W.cond_true true (by kernel_rfl) rfl ?_
  refine W.ret (ret_seq ?_)
  refine ret_of (.tuple #[]) (by kernel_rfl) ⟨_, ⟨rfl, .inl rfl⟩, hs⟩

end Go.Proofs.YthimamnblklkbaaDoor
