/- FnExactPutRef returns true, for every argument. No condition. -/
import Derived.Test.YtepnknffaecbdaaRows
import Derived.Test.YtepnknffaecbdaaVSxE
import Derived.Test.YtepnknffaecbdaaVH7
namespace Go.Proofs.Ytepnknffaecbdaa.fnExactPutRef
open Go.Proofs.Ytepnknffaecbdaa Go.Sx Go.ChangeShapes Go.WideShapes Go.ChangeAt Go.RowKit

theorem op100 {H : Type} {enc : TypeId × Value → H} {W : World} {cs : List Value} (h : Tr enc Try.prog W 100 cs) :
    ∃ (n_0 : Int) (n_1 : Int) (n_2 : List Int) (n_2p : Option Addr) (n_2c : Nat), cs = [.int .i64 n_0, .int .i64 n_1, .slice n_2p n_2.length n_2c] ∧ (Lit.int .i64 n_0).wf = true ∧ (Lit.int .i64 n_1).wf = true ∧ Sl W n_2p n_2.length n_2c 1 (ic n_2) ∧ (∀ x ∈ n_2, -9223372036854775808 ≤ x ∧ x ≤ 9223372036854775807) ∧ n_2.length ≤ maxLen := by
  obtain ⟨hl, hf⟩ := op_struct Try.underlying100 h
  rw [show Try.prog.cellsOf 100 = 3 by kernel_rfl] at hl
  have z3 : Try.prog.cellsOf 3 = 1 := by kernel_rfl
  have z40 : Try.prog.cellsOf 40 = 1 := by kernel_rfl
  obtain ⟨c0, c1, c2, rfl⟩ := len3 hl
  simp only [List.mem_cons, List.not_mem_nil, or_false, forall_eq_or_imp, forall_eq, z3, z40, List.drop_zero, List.drop_succ_cons, List.take_succ_cons, List.take_zero] at hf
  obtain ⟨f0, f1, f2⟩ := hf
  obtain ⟨n_0, e0, n_0b⟩ := op_int Try.underlying3 f0
  obtain ⟨n_1, e1, n_1b⟩ := op_int Try.underlying3 f1
  obtain ⟨n_2p, n_2c, n_2, e2, n_2s, n_2r, n_2l⟩ := op_ints Try.underlying40 Try.underlying3 (by kernel_rfl) f2
  simp only [List.cons.injEq, and_true] at e0 e1 e2
  subst e0
  subst e1
  subst e2
  exact ⟨n_0, n_1, n_2, n_2p, n_2c, rfl, n_0b, n_1b, n_2s, n_2r, n_2l⟩
theorem op91 {H : Type} {enc : TypeId × Value → H} {W : World} {cs : List Value} (h : Tr enc Try.prog W 91 cs) :
    ∃ (n_0 : Int) (n_1 : Int) (n_2 : Int) (n_3 : Bool) (n_4 : Bool) (n_5 : List Int) (n_5p : Option Addr) (n_5c : Nat), cs = [.int .i64 n_0, .int .i64 n_1, .int .i64 n_2, .bool n_3, .bool n_4, .slice n_5p n_5.length n_5c] ∧ (Lit.int .i64 n_0).wf = true ∧ (Lit.int .i64 n_1).wf = true ∧ (Lit.int .i64 n_2).wf = true ∧ Sl W n_5p n_5.length n_5c 1 (ic n_5) ∧ (∀ x ∈ n_5, -9223372036854775808 ≤ x ∧ x ≤ 9223372036854775807) ∧ n_5.length ≤ maxLen := by
  obtain ⟨hl, hf⟩ := op_struct Try.underlying91 h
  rw [show Try.prog.cellsOf 91 = 6 by kernel_rfl] at hl
  have z3 : Try.prog.cellsOf 3 = 1 := by kernel_rfl
  have z4 : Try.prog.cellsOf 4 = 1 := by kernel_rfl
  have z40 : Try.prog.cellsOf 40 = 1 := by kernel_rfl
  obtain ⟨c0, c1, c2, c3, c4, c5, rfl⟩ := len6 hl
  simp only [List.mem_cons, List.not_mem_nil, or_false, forall_eq_or_imp, forall_eq, z3, z4, z40, List.drop_zero, List.drop_succ_cons, List.take_succ_cons, List.take_zero] at hf
  obtain ⟨f0, f1, f2, f3, f4, f5⟩ := hf
  obtain ⟨n_0, e0, n_0b⟩ := op_int Try.underlying3 f0
  obtain ⟨n_1, e1, n_1b⟩ := op_int Try.underlying3 f1
  obtain ⟨n_2, e2, n_2b⟩ := op_int Try.underlying3 f2
  obtain ⟨n_3, e3⟩ := op_bool Try.underlying4 f3
  obtain ⟨n_4, e4⟩ := op_bool Try.underlying4 f4
  obtain ⟨n_5p, n_5c, n_5, e5, n_5s, n_5r, n_5l⟩ := op_ints Try.underlying40 Try.underlying3 (by kernel_rfl) f5
  simp only [List.cons.injEq, and_true] at e0 e1 e2 e3 e4 e5
  subst e0
  subst e1
  subst e2
  subst e3
  subst e4
  subst e5
  exact ⟨n_0, n_1, n_2, n_3, n_4, n_5, n_5p, n_5c, rfl, n_0b, n_1b, n_2b, n_5s, n_5r, n_5l⟩
theorem op102 {H : Type} {enc : TypeId × Value → H} {W : World} {cs : List Value} (h : Tr enc Try.prog W 102 cs) :
    ∃ (n_0 : Int) (n_1 : List Int) (n_1p : Option Addr) (n_1c : Nat), cs = [.int .i64 n_0, .slice n_1p n_1.length n_1c] ∧ (Lit.int .i64 n_0).wf = true ∧ Sl W n_1p n_1.length n_1c 1 (ic n_1) ∧ (∀ x ∈ n_1, -9223372036854775808 ≤ x ∧ x ≤ 9223372036854775807) ∧ n_1.length ≤ maxLen := by
  obtain ⟨hl, hf⟩ := op_struct Try.underlying102 h
  rw [show Try.prog.cellsOf 102 = 2 by kernel_rfl] at hl
  have z3 : Try.prog.cellsOf 3 = 1 := by kernel_rfl
  have z40 : Try.prog.cellsOf 40 = 1 := by kernel_rfl
  obtain ⟨c0, c1, rfl⟩ := len2 hl
  simp only [List.mem_cons, List.not_mem_nil, or_false, forall_eq_or_imp, forall_eq, z3, z40, List.drop_zero, List.drop_succ_cons, List.take_succ_cons, List.take_zero] at hf
  obtain ⟨f0, f1⟩ := hf
  obtain ⟨n_0, e0, n_0b⟩ := op_int Try.underlying3 f0
  obtain ⟨n_1p, n_1c, n_1, e1, n_1s, n_1r, n_1l⟩ := op_ints Try.underlying40 Try.underlying3 (by kernel_rfl) f1
  simp only [List.cons.injEq, and_true] at e0 e1
  subst e0
  subst e1
  exact ⟨n_0, n_1, n_1p, n_1c, rfl, n_0b, n_1s, n_1r, n_1l⟩
theorem own : ownKnob Try.prog.godebug = none := by kernel_rfl
theorem laidOut : laidOutB Try.prog = true := by kernel_rfl

set_option maxRecDepth 100000 in
theorem contract (H : Type) (enc : TypeId × Value → H) (W : World) (base : Nat) (args : Array Value) (ds gs : List (DataW H)) (before : List MemPlace)
    (hval : ∀ (j : Nat) t v, Try.f10.params[j]? = some t → args[j]? = some v → Value.okWide Try.prog W .any base t v)
    (hW : DataW.Whole enc Try.prog Try.f10.params.toList Rows.fnExactPutRefSpec.vars false W args.toList ds gs before) :
    Calls Try.prog 10 args W fun e W' => ∃ v, e = .returned v ∧ Rows.fnExactPutRefSpec.post enc Try.prog Try.f10 false true false false W args v W' := by
  have hW' := hW
  obtain ⟨p, q, hA0, hV, rfl, hfz, hnd⟩ := hW
  have hA : DataW.TrodAll enc Try.prog W 0 (fun _ => true) true Try.f10.params.toList args.toList ds p := hA0
  rw [Try.params10] at hA hval
  obtain ⟨v0, vs0, d0, ds0, p0, q0, hargs, rfl, rfl, h0, r0⟩ := trodAll_cons hA
  obtain ⟨v1, vs1, d1, ds1, p1, q1, rfl, rfl, rfl, h1, r1⟩ := trodAll_cons r0
  obtain ⟨v2, vs2, d2, ds2, p2, q2, rfl, rfl, rfl, h2, r2⟩ := trodAll_cons r1
  obtain ⟨v3, vs3, d3, ds3, p3, q3, rfl, rfl, rfl, h3, r3⟩ := trodAll_cons r2
  obtain ⟨v4, vs4, d4, ds4, p4, q4, rfl, rfl, rfl, h4, r4⟩ := trodAll_cons r3
  obtain ⟨rfl, rfl, rfl⟩ := trodAll_nil r4
  obtain rfl : args = #[v0, v1, v2, v3, v4] := by cases args; simp_all
  obtain ⟨rfl, rfl⟩ := trodVars_none hV
  clear hA hA0 hV hfz hnd
  obtain ⟨cs0, rfl⟩ := ok_agg Try.underlying100 (hval 0 100 v0 rfl rfl)
  have t0 : Tr enc Try.prog W 100 cs0.toList := by obtain ⟨fuel, h⟩ := h0; exact ⟨fuel, _, h⟩
  obtain ⟨a0_0, a0_1, a0_2, a0_2p, a0_2c, e0, a0_0b, a0_1b, a0_2s, a0_2r, a0_2l⟩ := op100 t0
  obtain rfl : cs0 = List.toArray _ := Array.toList_inj.1 (by simpa using e0)
  have a0_0b : -9223372036854775808 ≤ a0_0 ∧ a0_0 ≤ 9223372036854775807 := by simpa [Lit.wf, IntKind.min, IntKind.max, IntKind.signed, IntKind.bits] using a0_0b
  have a0_1b : -9223372036854775808 ≤ a0_1 ∧ a0_1 ≤ 9223372036854775807 := by simpa [Lit.wf, IntKind.min, IntKind.max, IntKind.signed, IntKind.bits] using a0_1b
  simp only [maxLen] at a0_2l
  obtain ⟨cs1, rfl⟩ := ok_agg Try.underlying91 (hval 1 91 v1 rfl rfl)
  have t1 : Tr enc Try.prog W 91 cs1.toList := by obtain ⟨fuel, h⟩ := h1; exact ⟨fuel, _, h⟩
  obtain ⟨a1_0, a1_1, a1_2, a1_3, a1_4, a1_5, a1_5p, a1_5c, e1, a1_0b, a1_1b, a1_2b, a1_5s, a1_5r, a1_5l⟩ := op91 t1
  obtain rfl : cs1 = List.toArray _ := Array.toList_inj.1 (by simpa using e1)
  have a1_0b : -9223372036854775808 ≤ a1_0 ∧ a1_0 ≤ 9223372036854775807 := by simpa [Lit.wf, IntKind.min, IntKind.max, IntKind.signed, IntKind.bits] using a1_0b
  have a1_1b : -9223372036854775808 ≤ a1_1 ∧ a1_1 ≤ 9223372036854775807 := by simpa [Lit.wf, IntKind.min, IntKind.max, IntKind.signed, IntKind.bits] using a1_1b
  have a1_2b : -9223372036854775808 ≤ a1_2 ∧ a1_2 ≤ 9223372036854775807 := by simpa [Lit.wf, IntKind.min, IntKind.max, IntKind.signed, IntKind.bits] using a1_2b
  simp only [maxLen] at a1_5l
  obtain ⟨a2, rfl, rfl, rfl, wf2⟩ := open_int Try.underlying3 (hval 2 3 v2 rfl rfl) h2
  have a2b : -9223372036854775808 ≤ a2 ∧ a2 ≤ 9223372036854775807 := by simpa [Lit.wf, IntKind.min, IntKind.max, IntKind.signed, IntKind.bits] using wf2
  obtain ⟨a3, rfl, rfl, rfl, wf3⟩ := open_int Try.underlying3 (hval 3 3 v3 rfl rfl) h3
  have a3b : -9223372036854775808 ≤ a3 ∧ a3 ≤ 9223372036854775807 := by simpa [Lit.wf, IntKind.min, IntKind.max, IntKind.signed, IntKind.bits] using wf3
  obtain ⟨cs4, rfl⟩ := ok_agg Try.underlying102 (hval 4 102 v4 rfl rfl)
  have t4 : Tr enc Try.prog W 102 cs4.toList := by obtain ⟨fuel, h⟩ := h4; exact ⟨fuel, _, h⟩
  obtain ⟨a4_0, a4_1, a4_1p, a4_1c, e4, a4_0b, a4_1s, a4_1r, a4_1l⟩ := op102 t4
  obtain rfl : cs4 = List.toArray _ := Array.toList_inj.1 (by simpa using e4)
  have a4_0b : -9223372036854775808 ≤ a4_0 ∧ a4_0 ≤ 9223372036854775807 := by simpa [Lit.wf, IntKind.min, IntKind.max, IntKind.signed, IntKind.bits] using a4_0b
  simp only [maxLen] at a4_1l
  refine (l_fnPutRef _ _ _ _ _ _ _ _ _ _ _ _ _ _ _ _ _ _ _ W a1_5s a0_2s a4_1s (by omega) (by omega) (by omega)).mono fun e W' ⟨he, hx⟩ => ?_
  subst he
  exact ⟨_, rfl, law_post laidOut rfl (by kernel_rfl) rfl Try.underlying4 hW' rfl rfl rfl hx⟩

set_option maxRecDepth 100000 in
theorem lifted (os : Os) (started : os.Started) (H : Type) (enc : TypeId × Value → H) :
    ReturnsInHanded {} Try.checked os 10 .any (Rows.fnExactPutRefSpec.pre6 enc Try.prog Try.f10 Rows.fnExactPutRefRow.domain false) (Rows.fnExactPutRefSpec.post enc Try.prog Try.f10 false true false false) := by
  refine returnsInHanded_of_change (C := Try.checked) own started (by kernel_rfl) Try.func10
    (ChangeSpec.witness6 (enc := enc) (C := Try.checked) false ⟨#[], #[.agg #[.int .i64 0, .int .i64 0, .slice none 0 0], .agg #[.int .i64 0, .int .i64 0, .int .i64 0, .bool false, .bool false, .slice none 0 0], .int .i64 0, .int .i64 0, .agg #[.int .i64 0, .slice none 0 0]], []⟩ 8 (by kernel_rfl) (by kernel_rfl) (by kernel_rfl) (by kernel_rfl)) ?_
  intro W base args ds gs before hval hW _ _
  exact contract H enc W base args ds gs before hval hW

theorem proved : Rows.FnExactPutRefSaid :=
  OpenClaim.holds_of_wide 10 Try.f10 rfl rfl rfl rfl rfl rfl rfl ⟨rfl, rfl, rfl, rfl, rfl⟩ rfl rfl rfl rfl rfl (by kernel_rfl) Try.func10 (by kernel_rfl)
    (of_decide_eq_true (by kernel_rfl)) (by unfold Func.isWrapper; first | (rw [if_pos (by decide +kernel)]; kernel_rfl) | (rw [if_neg (by decide +kernel)]; exact ⟨rfl, rfl⟩))
    (fun os started H enc _ => lifted os started H enc)
end Go.Proofs.Ytepnknffaecbdaa.fnExactPutRef
