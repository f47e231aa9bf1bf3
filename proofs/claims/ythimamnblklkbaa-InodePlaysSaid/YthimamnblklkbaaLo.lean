/- How a value of integers and truth values reads, however its type is built. -/
import Derived.Test.YthimamnblklkbaaLp
import Derived.OpenShut
namespace Go.Proofs.Ythimamnblklkbaa
open Go.ChangeShapes Go.WideShapes Go.ChangeAt Go.RowKit Go.Deep

inductive Leaf where
  | int (k : IntKind)
  | bool

def LeafOk : Leaf → Value → Prop
  | .int k, v => ∃ z, v = .int k z ∧ (Lit.int k z).wf = true
  | .bool, v => ∃ b, v = .bool b

def LeavesOk : List Leaf → List Value → Prop
  | [], [] => True
  | k :: ks, v :: vs => LeafOk k v ∧ LeavesOk ks vs
  | _, _ => False

theorem LeavesOk.append : ∀ {ks ks' : List Leaf} {vs vs' : List Value}, LeavesOk ks vs → LeavesOk ks' vs' → LeavesOk (ks ++ ks') (vs ++ vs')
  | [], _, [], _, _, h => h
  | _ :: _, _, _ :: _, _, h, h' => ⟨h.1, LeavesOk.append h.2 h'⟩

def leavesF (P : Program) (lv : TypeId → Option (List Leaf)) : Nat → List Field → Option (List Leaf)
  | _, [] => some []
  | off, f :: fs => match lv f.type with
    | some l => if f.offset = off ∧ P.cellsOf f.type = l.length then (leavesF P lv (off + l.length) fs).map (l ++ ·) else none
    | none => none

def leaves (P : Program) : Nat → TypeId → Option (List Leaf)
  | 0, _ => none
  | m + 1, t => match P.underlying t with
    | some (.int k) => some [.int k]
    | some .bool => some [.bool]
    | some (.struct fs) => match leavesF P (leaves P m) 0 fs.toList with
      | some ks => if P.cellsOf t = ks.length then some ks else none
      | none => none
    | some (.array n e) => match leaves P m e with
      | some l => if P.cellsOf e = l.length ∧ P.cellsOf t = n * l.length then some ((List.replicate n l).flatten) else none
      | none => none
    | _ => none

section
variable {H : Type} {enc : TypeId × Value → H} {P : Program} {w : World} {base : Nat} {sp : Nat → Bool} {held : Bool}

theorem leavesF_ok {lv : TypeId → Option (List Leaf)} (hlv : ∀ (t : TypeId) (ks : List Leaf) (n : Nat) (cs : List Value) (y : DataW H × List MemPlace), lv t = some ks → DataW.trod enc P w base sp held n t cs = some y → LeavesOk ks cs) {cs : List Value} :
    ∀ (fs : List Field) (off : Nat) (ks : List Leaf), leavesF P lv off fs = some ks → (∀ (i : Nat) (f : Field), fs[i]? = some f → ∃ n y, DataW.trod enc P w base sp held n f.type ((cs.drop f.offset).take (P.cellsOf f.type)) = some y) →
      LeavesOk ks ((cs.drop off).take ks.length)
  | [], off, ks, h, _ => by
    simp only [leavesF, Option.some.injEq] at h
    subst h
    simp [LeavesOk]
  | f :: fs, off, ks, h, ht => by
    unfold leavesF at h
    split at h
    · rename_i l hl
      split at h
      · rename_i hc
        simp only [Option.map_eq_some_iff] at h
        obtain ⟨ks', hk', rfl⟩ := h
        obtain ⟨n, y, hy⟩ := ht 0 f rfl
        rw [hc.1, hc.2] at hy
        have h1 := hlv _ _ _ _ _ hl hy
        have h2 := leavesF_ok hlv fs (off + l.length) ks' hk' (fun i g hg => ht (i + 1) g (by simpa using hg))
        have e : (cs.drop off).take (l ++ ks').length = (cs.drop off).take l.length ++ (cs.drop (off + l.length)).take ks'.length := by
          rw [List.length_append, List.take_add, List.drop_drop]
        rw [e]
        exact h1.append h2
      · cases h
    · cases h

theorem leavesA_ok {l : List Leaf} {cs : List Value} : ∀ n : Nat, (∀ i, i < n → LeavesOk l ((cs.drop (i * l.length)).take l.length)) → LeavesOk ((List.replicate n l).flatten) (cs.take (n * l.length))
  | 0, _ => by simp [LeavesOk]
  | n + 1, h => by
    have h1 := leavesA_ok n (fun i hi => h i (by omega))
    have h2 := h n (by omega)
    have e1 : (List.replicate (n + 1) l).flatten = (List.replicate n l).flatten ++ l := by
      rw [List.replicate_succ', List.flatten_append]
      simp
    have e2 : cs.take ((n + 1) * l.length) = cs.take (n * l.length) ++ (cs.drop (n * l.length)).take l.length := by
      rw [Nat.add_mul, Nat.one_mul, List.take_add]
    rw [e1, e2]
    exact h1.append h2

theorem leaves_ok : ∀ (m : Nat) (t : TypeId) (ks : List Leaf) (n : Nat) (cs : List Value) (y : DataW H × List MemPlace), leaves P m t = some ks → DataW.trod enc P w base sp held n t cs = some y → LeavesOk ks cs
  | 0, t, ks, n, cs, y, h, _ => by simp [leaves] at h
  | m + 1, t, ks, n, cs, y, h, hy => by
    unfold leaves at h
    split at h
    · rename_i k hu
      cases h
      obtain ⟨z, rfl, _, hz⟩ := DataW.trod_int hu hy
      exact ⟨⟨z, rfl, hz⟩, trivial⟩
    · rename_i hu
      cases h
      cases n with
      | zero => simp [DataW.trod] at hy
      | succ n =>
        unfold DataW.trod at hy
        rw [hu] at hy
        split at hy <;> simp_all [LeavesOk, LeafOk]
    · rename_i fs hu
      split at h
      · rename_i ks' hks
        split at h
        · rename_i hc
          cases h
          obtain ⟨xs, n', rfl, _, hlen, hxl, hf⟩ := DataW.trod_struct hu hy
          have h1 := leavesF_ok (cs := cs) (leaves_ok m) fs.toList 0 _ hks (fun i f hi => by
            have hi' : fs[i]? = some f := by simpa using hi
            have := hf i f hi'
            have hil : i < xs.length := by rw [hxl]; exact (Array.getElem?_eq_some_iff.1 hi').1
            rw [List.getElem?_eq_getElem hil] at this
            exact ⟨_, _, this⟩)
          simpa [← hc, ← hlen] using h1
        · cases h
      · cases h
    · rename_i k e hu
      split at h
      · rename_i l hl
        split at h
        · rename_i hc
          cases h
          obtain ⟨xs, n', rfl, _, hlen, hxl, hf⟩ := DataW.trod_array hu hy
          have h1 := leavesA_ok (l := l) (cs := cs) k (fun i hi => by
            have := hf i hi
            have hil : i < xs.length := by rw [hxl]; exact hi
            rw [List.getElem?_eq_getElem hil, hc.1] at this
            exact leaves_ok m _ _ _ _ _ hl this)
          simpa [← hc.2, ← hlen] using h1
        · cases h
      · cases h
    · cases h

/-- A struct by value, opened. -/
theorem open_agg {α : Type} (K : Kind α) (good : α → Prop) {fs : Array Field} {ks : List Leaf} (m : Nat) (hs : P.underlying K.e = some (.struct fs)) (hl : leaves P m K.e = some ks) (hread : ∀ cs, LeavesOk ks cs → ∃ x, cs = K.elem x ∧ good x)
    {r : Reach} {b0 : Nat} {v : Value} {d : DataW H} {ps : List MemPlace} (hval : Value.okWide P w r b0 K.e v) (h : DataW.Trod enc P w base sp held K.e v d ps) : ∃ x, v = .agg (K.elem x).toArray ∧ good x := by
  obtain ⟨cs, rfl, _⟩ := okWide_struct hs hval
  obtain ⟨fuel, h⟩ := h
  have h' : DataW.trod enc P w base sp held fuel K.e cs.toList = some (d, ps) := h
  obtain ⟨x, hx, hg⟩ := hread _ (leaves_ok m _ _ _ _ _ hl h')
  exact ⟨x, by rw [← hx], hg⟩
end
theorem leaves_cons {k : Leaf} {ks : List Leaf} : ∀ {cs : List Value}, LeavesOk (k :: ks) cs → ∃ v vs, cs = v :: vs ∧ LeafOk k v ∧ LeavesOk ks vs
  | v :: vs, h => ⟨v, vs, rfl, h.1, h.2⟩
  | [], h => h.elim
theorem leaves_nil : ∀ {cs : List Value}, LeavesOk [] cs → cs = []
  | [], _ => rfl
  | _ :: _, h => h.elim
end Go.Proofs.Ythimamnblklkbaa
