/- FnExactDeblockFast returns true, for every argument. No condition. -/
import Derived.Test.YtfmmkacopgecpaaRows
import Derived.Test.YtfmmkacopgecpaaSxE
import Derived.Test.YtfmmkacopgecpaaGH
namespace Go.Proofs.Ytfmmkacopgecpaa.fnExactDeblockFast
open Go.Proofs.Ytfmmkacopgecpaa Go.Sx Go.ChangeShapes Go.WideShapes Go.ChangeAt Go.RowKit

theorem op91 {H : Type} {enc : TypeId × Value → H} {W : World} {cs : List Value} (h : Tr enc Try.prog W 91 cs) :
    ∃ (n_0 : Int) (n_1 : Int) (n_2 : List Int) (n_2p : Option Addr) (n_2c : Nat), cs = [.int .i64 n_0, .int .i64 n_1, .slice n_2p n_2.length n_2c] ∧ (Lit.int .i64 n_0).wf = true ∧ (Lit.int .i64 n_1).wf = true ∧ Sl W n_2p n_2.length n_2c 1 (ic n_2) ∧ (∀ x ∈ n_2, -9223372036854775808 ≤ x ∧ x ≤ 9223372036854775807) ∧ n_2.length ≤ maxLen := by
  obtain ⟨hl, hf⟩ := op_struct Try.underlying91 h
  rw [show Try.prog.cellsOf 91 = 3 by kernel_rfl] at hl
  have z3 : Try.prog.cellsOf 3 = 1 := by kernel_rfl
  have z33 : Try.prog.cellsOf 33 = 1 := by kernel_rfl
  obtain ⟨c0, c1, c2, rfl⟩ := len3 hl
  simp only [List.mem_cons, List.not_mem_nil, or_false, forall_eq_or_imp, forall_eq, z3, z33, List.drop_zero, List.drop_succ_cons, List.take_succ_cons, List.take_zero] at hf
  obtain ⟨f0, f1, f2⟩ := hf
  obtain ⟨n_0, e0, n_0b⟩ := op_int Try.underlying3 f0
  obtain ⟨n_1, e1, n_1b⟩ := op_int Try.underlying3 f1
  obtain ⟨n_2p, n_2c, n_2, e2, n_2s, n_2r, n_2l⟩ := op_ints Try.underlying33 Try.underlying3 (by kernel_rfl) f2
  simp only [List.cons.injEq, and_true] at e0 e1 e2
  subst e0
  subst e1
  subst e2
  exact ⟨n_0, n_1, n_2, n_2p, n_2c, rfl, n_0b, n_1b, n_2s, n_2r, n_2l⟩
theorem own : ownKnob Try.prog.godebug = none := by kernel_rfl
theorem laidOut : laidOutB Try.prog = true := by kernel_rfl

set_option maxRecDepth 100000 in
theorem contract (H : Type) (enc : TypeId × Value → H) (W : World) (base : Nat) (args : Array Value) (ds gs : List (DataW H)) (before : List MemPlace)
    (hval : ∀ (j : Nat) t v, Try.f14.params[j]? = some t → args[j]? = some v → Value.okWide Try.prog W .any base t v)
    (hW : DataW.Whole enc Try.prog Try.f14.params.toList Rows.fnExactDeblockFastSpec.vars false W args.toList ds gs before) :
    Calls Try.prog 14 args W fun e W' => ∃ v, e = .returned v ∧ Rows.fnExactDeblockFastSpec.post enc Try.prog Try.f14 false true false false W args v W' := by
  have hW' := hW
  obtain ⟨p, q, hA0, hV, rfl, hfz, hnd⟩ := hW
  have hA : DataW.TrodAll enc Try.prog W 0 (fun _ => true) true Try.f14.params.toList args.toList ds p := hA0
  rw [Try.params14] at hA hval
  obtain ⟨v0, vs0, d0, ds0, p0, q0, hargs, rfl, rfl, h0, r0⟩ := trodAll_cons hA
  obtain ⟨v1, vs1, d1, ds1, p1, q1, rfl, rfl, rfl, h1, r1⟩ := trodAll_cons r0
  obtain ⟨rfl, rfl, rfl⟩ := trodAll_nil r1
  obtain rfl : args = #[v0, v1] := by cases args; simp_all
  obtain ⟨rfl, rfl⟩ := trodVars_none hV
  clear hA hA0 hV hfz hnd
  obtain ⟨cs0, rfl⟩ := ok_agg Try.underlying91 (hval 0 91 v0 rfl rfl)
  have t0 : Tr enc Try.prog W 91 cs0.toList := by obtain ⟨fuel, h⟩ := h0; exact ⟨fuel, _, h⟩
  obtain ⟨a0_0, a0_1, a0_2, a0_2p, a0_2c, e0, a0_0b, a0_1b, a0_2s, a0_2r, a0_2l⟩ := op91 t0
  obtain rfl : cs0 = List.toArray _ := Array.toList_inj.1 (by simpa using e0)
  have a0_0b : -9223372036854775808 ≤ a0_0 ∧ a0_0 ≤ 9223372036854775807 := by simpa [Lit.wf, IntKind.min, IntKind.max, IntKind.signed, IntKind.bits] using a0_0b
  have a0_1b : -9223372036854775808 ≤ a0_1 ∧ a0_1 ≤ 9223372036854775807 := by simpa [Lit.wf, IntKind.min, IntKind.max, IntKind.signed, IntKind.bits] using a0_1b
  simp only [maxLen] at a0_2l
  obtain ⟨a1, rfl, rfl, rfl, wf1⟩ := open_int Try.underlying3 (hval 1 3 v1 rfl rfl) h1
  have a1b : -9223372036854775808 ≤ a1 ∧ a1 ≤ 9223372036854775807 := by simpa [Lit.wf, IntKind.min, IntKind.max, IntKind.signed, IntKind.bits] using wf1
  refine (l_fnDeblockFast _ _ _ _ _ _ _ W a0_2s (by omega)).mono fun e W' ⟨he, hx⟩ => ?_
  subst he
  exact ⟨_, rfl, law_post laidOut rfl (by kernel_rfl) rfl Try.underlying4 hW' rfl rfl rfl hx⟩

set_option maxRecDepth 100000 in
theorem lifted (os : Os) (started : os.Started) (H : Type) (enc : TypeId × Value → H) :
    ReturnsInHanded {} Try.checked os 14 .any (Rows.fnExactDeblockFastSpec.pre6 enc Try.prog Try.f14 Rows.fnExactDeblockFastRow.domain false) (Rows.fnExactDeblockFastSpec.post enc Try.prog Try.f14 false true false false) := by
  refine returnsInHanded_of_change (C := Try.checked) own started (by kernel_rfl) Try.func14
    (ChangeSpec.witness6 (enc := enc) (C := Try.checked) false ⟨#[], #[.agg #[.int .i64 0, .int .i64 0, .slice none 0 0], .int .i64 0], []⟩ 8 (by kernel_rfl) (by kernel_rfl) (by kernel_rfl) (by kernel_rfl)) ?_
  intro W base args ds gs before hval hW _ _
  exact contract H enc W base args ds gs before hval hW

theorem proved : Rows.FnExactDeblockFastSaid :=
  OpenClaim.holds_of_wide 14 Try.f14 rfl rfl rfl rfl rfl rfl rfl ⟨rfl, rfl, rfl, rfl, rfl⟩ rfl rfl rfl rfl rfl (by kernel_rfl) Try.func14 (by kernel_rfl)
    (of_decide_eq_true (by kernel_rfl)) (by unfold Func.isWrapper; first | (rw [if_pos (by decide +kernel)]; kernel_rfl) | (rw [if_neg (by decide +kernel)]; exact ⟨rfl, rfl⟩))
    (fun os started H enc _ => lifted os started H enc)
end Go.Proofs.Ytfmmkacopgecpaa.fnExactDeblockFast
