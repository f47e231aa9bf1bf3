/- Inodes: contracts at a known answer. -/
import Derived.Test.YthimamnblklkbaaF6j
namespace Go.Proofs.Ythimamnblklkbaa
open Go Go.RowKit

theorem ig_eq {b : Nat} {img : List Int} {l : List (Int × Int)} {gw gi gb n_ e : Int} {x : Nd} (he : igetM img l gw gi gb n_ = (x, e)) (B : Nat) (w : World) (hv : ViewAt (ptr b) img l w) :
    Spec Try.prog 36 #[ptr b, .agg #[.int .i64 gw, .int .i64 gi, .int .i64 gb], .int .i64 n_] B w [] (fun v H' => v = .tuple #[.agg #[.int .u64 x.k, .int .u64 x.l, .int .u64 x.o, .int .u64 x.s, .int .u64 x.a, .int .u64 x.b, .int .u64 x.c, .int .u64 x.d, .int .u64 x.e, .int .u64 x.m], .int .i64 e] ∧ H' = []) := by
  have h := ig_spec (gw := gw) (gi := gi) (gb := gb) (n_ := n_) B w hv
  rw [he] at h
  exact h
theorem ip_eq {b : Nat} {img : List Int} {l l2 : List (Int × Int)} {gw gi gb n_ e : Int} {x_ : Nd} (he : iputM img l gw gi gb n_ x_ = (e, l2)) (B : Nat) (w : World) :
    Spec Try.prog 35 #[ptr b, .agg #[.int .i64 gw, .int .i64 gi, .int .i64 gb], .int .i64 n_, .agg #[.int .u64 x_.k, .int .u64 x_.l, .int .u64 x_.o, .int .u64 x_.s, .int .u64 x_.a, .int .u64 x_.b, .int .u64 x_.c, .int .u64 x_.d, .int .u64 x_.e, .int .u64 x_.m]] B w [viewA (ptr b) img l] (fun v H' => v = .int .i64 e ∧ H' = [viewA (ptr b) img l2]) := by
  have h := ip_spec (b := b) (img := img) (l := l) (gw := gw) (gi := gi) (gb := gb) (n_ := n_) (x_ := x_) B w
  rw [he] at h
  exact h
theorem iw_eq {b : Nat} {img : List Int} {l l2 : List (Int × Int)} {gw gi gb n_ e : Int} (he : iwipeM img l gw gi gb n_ = (e, l2)) (B : Nat) (w : World) :
    Spec Try.prog 37 #[ptr b, .agg #[.int .i64 gw, .int .i64 gi, .int .i64 gb], .int .i64 n_] B w [viewA (ptr b) img l] (fun v H' => v = .int .i64 e ∧ H' = [viewA (ptr b) img l2]) := by
  have h := iw_spec (b := b) (img := img) (l := l) (gw := gw) (gi := gi) (gb := gb) (n_ := n_) B w
  rw [he] at h
  exact h
theorem w12a : igetM (fmtW 1 3 4) [] 1 3 4 1 = (⟨2, 1, 0, 0, 0, 0, 0, 0, 0, 0⟩, 0) := by kernel_rfl
theorem w12b : igetM (fmtW 1 3 4) [] 1 3 4 2 = (Nd.zero, 4) := by kernel_rfl
theorem w12c : iputM (fmtW 1 3 4) [] 1 3 4 2 ⟨1, 1, 0, 0, 0, 0, 0, 0, 0, 0⟩ = (0, [(520, 1), (521, 1)]) := by kernel_rfl
theorem w12d : igetM (fmtW 1 3 4) [(520, 1), (521, 1)] 1 3 4 0 = (Nd.zero, 1) := by kernel_rfl
end Go.Proofs.Ythimamnblklkbaa
