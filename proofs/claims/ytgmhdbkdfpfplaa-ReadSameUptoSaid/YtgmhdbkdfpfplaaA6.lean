/- bytebarnlaw07.ReadSame returns true and leaves its arguments as they were, whatever the two modules are, where what it reads is of bulk at most 1048576. -/
import Derived.Test.YtgmhdbkdfpfplaaRows
import Derived.Test.YtgmhdbkdfpfplaaA5
import Derived.ProofKit
import Derived.JoinedCond
set_option linter.unusedVariables false
set_option linter.unusedSimpArgs false
namespace Go.Proofs.Ytgmhdbkdfpfplaa
open Go.ChangeShapes Go.WideShapes Go.ChangeAt Go.RowKit Go.Ab

theorem Try.own : ownKnob Try.prog.godebug = none := by kernel_rfl
theorem Try.laidOut : laidOutB Try.prog = true := by kernel_rfl

mutual
theorem bulk_len {H : Type} : ∀ (d : DataW H), Rows.uptoBulk d ≤ 1048576 → lenD 1048576 d
  | .slice elems spare, h => by
    simp only [Rows.uptoBulk] at h
    exact ⟨by have := bulk_ge elems; omega, bulk_lens elems (by omega)⟩
  | .agg parts, h => by
    simp only [Rows.uptoBulk] at h
    exact bulk_lens parts (by omega)
  | .lit _, _ => trivial
  | .nil, _ => trivial
  | .ptr _, _ => trivial
  | .iface _ _, _ => trivial
  | .map _, _ => trivial
  | .held _, _ => trivial
theorem bulk_lens {H : Type} : ∀ (l : List (DataW H)), Rows.uptoBulkAll l ≤ 1048576 → lenDs 1048576 l
  | [], _ => trivial
  | d :: r, h => by
    simp only [Rows.uptoBulkAll] at h
    exact ⟨bulk_len d (by omega), bulk_lens r (by omega)⟩
theorem bulk_ge {H : Type} : ∀ (l : List (DataW H)), l.length ≤ Rows.uptoBulkAll l
  | [] => Nat.zero_le _
  | d :: r => by
    simp only [Rows.uptoBulkAll, List.length_cons]
    have h1 := bulk_ge r
    have h2 : 1 ≤ Rows.uptoBulk d := by
      cases d with
      | lit l => cases l <;> simp [Rows.uptoBulk]
      | _ => simp [Rows.uptoBulk]
    omega
end
theorem bulk_app {H : Type} (a b : List (DataW H)) : Rows.uptoBulkAll a ≤ Rows.uptoBulkAll (a ++ b) := by
  induction a with
  | nil => exact Nat.zero_le _
  | cons d a ih => simp only [List.cons_append, Rows.uptoBulkAll]; omega
theorem small_lens {H : Type} {ds gs : List (DataW H)} (h : Rows.uptoSmall H (ds ++ gs) = true) : lenDs 1048576 ds := by
  have h1 := of_decide_eq_true h
  exact bulk_lens ds (Nat.le_trans (bulk_app ds gs) h1)

theorem pars3 : Try.f3.params.toList = [32, 32] := by kernel_rfl
theorem agg32 : aggT Try.prog 32 = some true := by kernel_rfl
theorem tys32 : tysOf Try.prog 8 32 = some TModule := by kernel_rfl
theorem runs3 (vs : List TV) (h : WTs Try.prog 1048576 8 Try.f3.params.toList vs) : ∃ objs, Runs Try.prog 3 vs [] (.ret (.p (.bool true)) objs) := by
  rw [pars3] at h
  obtain ⟨v1, v2, rfl, h1, h2⟩ := wts_two h
  obtain ⟨x, rfl, hx⟩ := wtv_agg h1 agg32 tys32
  obtain ⟨y, rfl, hy⟩ := wtv_agg h2 agg32 tys32
  exact ⟨[], spec3 x y hx hy⟩

set_option maxRecDepth 100000 in
theorem readSame_lifted (os : Os) (started : os.Started) (H : Type) (enc : TypeId × Value → H) (F0 : Stop.Interp) :
    ReturnsInHanded {} Try.checked os 3 .any ((Rows.OpenSpec.upto Rows.readSameSpec).pre6 enc Try.prog Try.f3 Rows.readSameUptoRow.domain false) (((Rows.OpenSpec.upto Rows.readSameSpec).at F0).post enc Try.prog Try.f3 false true false false) := by
  refine returnsInHanded_of_cond (C := Try.checked) (s := Rows.OpenSpec.upto Rows.readSameSpec) (k := Rows.uptoSmall) rfl Try.own started (by kernel_rfl) Try.func3
    (OpenSpec.witness (enc := enc) (C := Try.checked) (s := Rows.OpenSpec.upto Rows.readSameSpec) (k := Rows.uptoSmall) rfl false
      ⟨#[], #[.agg #[.slice none 0 0, .slice none 0 0, .slice none 0 0, .slice none 0 0, .slice none 0 0, .slice none 0 0, .slice none 0 0, .slice none 0 0, .slice none 0 0, .slice none 0 0, .slice none 0 0], .agg #[.slice none 0 0, .slice none 0 0, .slice none 0 0, .slice none 0 0, .slice none 0 0, .slice none 0 0, .slice none 0 0, .slice none 0 0, .slice none 0 0, .slice none 0 0, .slice none 0 0]], []⟩ 8 (by kernel_rfl) (by kernel_rfl) (by kernel_rfl)
      (x := ([.agg [.nil, .nil, .nil, .nil, .nil, .nil, .nil, .nil, .nil, .nil, .nil], .agg [.nil, .nil, .nil, .nil, .nil, .nil, .nil, .nil, .nil, .nil, .nil]], [], [])) (by kernel_rfl) (by kernel_rfl) (by kernel_rfl)) ?_
  intro W base args ds gs before hval hW _ hk _
  exact law_contract (P := Try.prog) (B := 1048576) (n := 8) (tb := 4) Try.func3 body3 name3 Try.laidOut (by kernel_rfl) (by kernel_rfl) (by kernel_rfl) (by kernel_rfl) rfl
    (fun ds hl => by
      match ds, hl with
      | [d1, d2], _ => rfl) runs3 hval hW (small_lens hk)

theorem readSame_holds : Rows.ReadSameUptoSaid :=
  OpenClaim.holds_of_cond 3 Try.f3 rfl rfl rfl rfl rfl rfl rfl ⟨rfl, rfl, rfl, rfl, rfl⟩ rfl rfl rfl rfl rfl (by kernel_rfl) Try.func3 (by kernel_rfl)
    (of_decide_eq_true (by kernel_rfl)) (by unfold Func.isWrapper; first | (rw [if_pos (by decide +kernel)]; kernel_rfl) | (rw [if_neg (by decide +kernel)]; exact ⟨rfl, rfl⟩))
    (fun os started H enc _ F0 => readSame_lifted os started H enc F0)
#print axioms readSame_holds
end Go.Proofs.Ytgmhdbkdfpfplaa
