/- FnExactMbBits returns true, for every argument. No condition. -/
import Derived.Test.YtnehdmcilmlchaaRows
import Derived.Test.YtnehdmcilmlchaaVSxE
import Derived.Test.YtnehdmcilmlchaaVGU
namespace Go.Proofs.Ytnehdmcilmlchaa.fnExactMbBits
open Go.Proofs.Ytnehdmcilmlchaa Go.Sx Go.ChangeShapes Go.WideShapes Go.ChangeAt Go.RowKit

theorem op102 {H : Type} {enc : TypeId × Value → H} {W : World} {cs : List Value} (h : Tr enc Try.prog W 102 cs) :
    ∃ (n_0 : Int) (n_1 : List Int) (n_1p : Option Addr) (n_1c : Nat), cs = [.int .i64 n_0, .slice n_1p n_1.length n_1c] ∧ (Lit.int .i64 n_0).wf = true ∧ Sl W n_1p n_1.length n_1c 1 (ic n_1) ∧ (∀ x ∈ n_1, -9223372036854775808 ≤ x ∧ x ≤ 9223372036854775807) ∧ n_1.length ≤ maxLen := by
  obtain ⟨hl, hf⟩ := op_struct Try.underlying102 h
  rw [show Try.prog.cellsOf 102 = 2 by kernel_rfl] at hl
  have z3 : Try.prog.cellsOf 3 = 1 := by kernel_rfl
  have z40 : Try.prog.cellsOf 40 = 1 := by kernel_rfl
  obtain ⟨c0, c1, rfl⟩ := len2 hl
  simp only [List.mem_cons, List.not_mem_nil, or_false, forall_eq_or_imp, forall_eq, z3, z40, List.drop_zero, List.drop_succ_cons, List.take_succ_cons, List.take_zero] at hf
  obtain ⟨f0, f1⟩ := hf
  obtain ⟨n_0, e0, n_0b⟩ := op_int Try.underlying3 f0
  obtain ⟨n_1p, n_1c, n_1, e1, n_1s, n_1r, n_1l⟩ := op_ints Try.underlying40 Try.underlying3 (by kernel_rfl) f1
  simp only [List.cons.injEq, and_true] at e0 e1
  subst e0
  subst e1
  exact ⟨n_0, n_1, n_1p, n_1c, rfl, n_0b, n_1s, n_1r, n_1l⟩
theorem op65 {H : Type} {enc : TypeId × Value → H} {W : World} {cs : List Value} (h : Tr enc Try.prog W 65 cs) :
    ∃ (p : Option Addr) (c : Nat) (xs : List Bk), cs = [.slice p xs.length c] ∧ Sl W p xs.length c 2 (xs.flatMap brow) ∧ (∀ x ∈ xs, (GoodB W) x) ∧ xs.length ≤ maxLen := by
  obtain ⟨p, c, xs, h1, h2, h3⟩ := op_rows brow (GoodB W) Try.underlying65 (by kernel_rfl) brow_len (fun es h => by obtain ⟨n0, n1, p1, c1c, e, b0, s1, r1, l1⟩ := op102 h; exact ⟨⟨n0, p1, n1, c1c, []⟩, e, s1, l1, by simpa [Lit.wf, IntKind.min, IntKind.max, IntKind.signed, IntKind.bits] using b0, r1⟩) h
  exact ⟨p, c, xs, h1, h2, h3, Nat.le_trans h2.cap h2.mx⟩
theorem op67 {H : Type} {enc : TypeId × Value → H} {W : World} {cs : List Value} (h : Tr enc Try.prog W 67 cs) :
    ∃ (n_0 : Bool) (n_1 : List Bk) (n_1p : Option Addr) (n_1c : Nat), cs = [.bool n_0, .slice n_1p n_1.length n_1c] ∧ Sl W n_1p n_1.length n_1c 2 (n_1.flatMap brow) ∧ (∀ x ∈ n_1, GoodB W x) ∧ n_1.length ≤ maxLen := by
  obtain ⟨hl, hf⟩ := op_struct Try.underlying67 h
  rw [show Try.prog.cellsOf 67 = 2 by kernel_rfl] at hl
  have z4 : Try.prog.cellsOf 4 = 1 := by kernel_rfl
  have z65 : Try.prog.cellsOf 65 = 1 := by kernel_rfl
  obtain ⟨c0, c1, rfl⟩ := len2 hl
  simp only [List.mem_cons, List.not_mem_nil, or_false, forall_eq_or_imp, forall_eq, z4, z65, List.drop_zero, List.drop_succ_cons, List.take_succ_cons, List.take_zero] at hf
  obtain ⟨f0, f1⟩ := hf
  obtain ⟨n_0, e0⟩ := op_bool Try.underlying4 f0
  obtain ⟨n_1p, n_1c, n_1, e1, n_1s, n_1r, n_1l⟩ := op65 f1
  simp only [List.cons.injEq, and_true] at e0 e1
  subst e0
  subst e1
  exact ⟨n_0, n_1, n_1p, n_1c, rfl, n_1s, n_1r, n_1l⟩
theorem own : ownKnob Try.prog.godebug = none := by kernel_rfl
theorem laidOut : laidOutB Try.prog = true := by kernel_rfl

set_option maxRecDepth 100000 in
theorem contract (H : Type) (enc : TypeId × Value → H) (W : World) (base : Nat) (args : Array Value) (ds gs : List (DataW H)) (before : List MemPlace)
    (hval : ∀ (j : Nat) t v, Try.f6.params[j]? = some t → args[j]? = some v → Value.okWide Try.prog W .any base t v)
    (hW : DataW.Whole enc Try.prog Try.f6.params.toList Rows.fnExactMbBitsSpec.vars false W args.toList ds gs before) :
    Calls Try.prog 6 args W fun e W' => ∃ v, e = .returned v ∧ Rows.fnExactMbBitsSpec.post enc Try.prog Try.f6 false true false false W args v W' := by
  have hW' := hW
  obtain ⟨p, q, hA0, hV, rfl, hfz, hnd⟩ := hW
  have hA : DataW.TrodAll enc Try.prog W 0 (fun _ => true) true Try.f6.params.toList args.toList ds p := hA0
  rw [Try.params6] at hA hval
  obtain ⟨v0, vs0, d0, ds0, p0, q0, hargs, rfl, rfl, h0, r0⟩ := trodAll_cons hA
  obtain ⟨v1, vs1, d1, ds1, p1, q1, rfl, rfl, rfl, h1, r1⟩ := trodAll_cons r0
  obtain ⟨rfl, rfl, rfl⟩ := trodAll_nil r1
  obtain rfl : args = #[v0, v1] := by cases args; simp_all
  obtain ⟨rfl, rfl⟩ := trodVars_none hV
  clear hA hA0 hV hfz hnd
  obtain ⟨cs0, rfl⟩ := ok_agg Try.underlying67 (hval 0 67 v0 rfl rfl)
  have t0 : Tr enc Try.prog W 67 cs0.toList := by obtain ⟨fuel, h⟩ := h0; exact ⟨fuel, _, h⟩
  obtain ⟨a0_0, a0_1, a0_1p, a0_1c, e0, a0_1s, a0_1r, a0_1l⟩ := op67 t0
  obtain rfl : cs0 = List.toArray _ := Array.toList_inj.1 (by simpa using e0)
  simp only [maxLen] at a0_1l
  have t1 : Tr enc Try.prog W 40 [v1] := by obtain ⟨fuel, h⟩ := h1; rw [ok_one Try.underlying40 (hval 1 40 v1 rfl rfl)] at h; exact ⟨fuel, _, h⟩
  obtain ⟨a1p, a1c, a1, e1, a1s, a1r, a1l⟩ := op_ints Try.underlying40 Try.underlying3 (by kernel_rfl) t1
  simp only [List.cons.injEq, and_true] at e1
  subst e1
  simp only [maxLen] at a1l
  refine (l_fnMbBits _ _ _ _ _ _ _ W ⟨a0_1s, fun b h => (a0_1r b h).1⟩ a1s (by omega) (fun b h => by have := (a0_1r b h).2.1; simp only [maxLen] at this; omega) (by omega)).mono fun e W' ⟨he, hx⟩ => ?_
  subst he
  exact ⟨_, rfl, law_post laidOut rfl (by kernel_rfl) rfl Try.underlying4 hW' rfl rfl rfl hx⟩

set_option maxRecDepth 100000 in
theorem lifted (os : Os) (started : os.Started) (H : Type) (enc : TypeId × Value → H) :
    ReturnsInHanded {} Try.checked os 6 .any (Rows.fnExactMbBitsSpec.pre6 enc Try.prog Try.f6 Rows.fnExactMbBitsRow.domain false) (Rows.fnExactMbBitsSpec.post enc Try.prog Try.f6 false true false false) := by
  refine returnsInHanded_of_change (C := Try.checked) own started (by kernel_rfl) Try.func6
    (ChangeSpec.witness6 (enc := enc) (C := Try.checked) false ⟨#[], #[.agg #[.bool false, .slice none 0 0], .slice none 0 0], []⟩ 8 (by kernel_rfl) (by kernel_rfl) (by kernel_rfl) (by kernel_rfl)) ?_
  intro W base args ds gs before hval hW _ _
  exact contract H enc W base args ds gs before hval hW

theorem proved : Rows.FnExactMbBitsSaid :=
  OpenClaim.holds_of_wide 6 Try.f6 rfl rfl rfl rfl rfl rfl rfl ⟨rfl, rfl, rfl, rfl, rfl⟩ rfl rfl rfl rfl rfl (by kernel_rfl) Try.func6 (by kernel_rfl)
    (of_decide_eq_true (by kernel_rfl)) (by unfold Func.isWrapper; first | (rw [if_pos (by decide +kernel)]; kernel_rfl) | (rw [if_neg (by decide +kernel)]; exact ⟨rfl, rfl⟩))
    (fun os started H enc _ => lifted os started H enc)
end Go.Proofs.Ytnehdmcilmlchaa.fnExactMbBits
