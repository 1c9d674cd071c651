/- FnExactSameMb returns true, for every argument. No condition. -/
import Derived.Test.YtglepnbcplldeaaRows
import Derived.Test.YtglepnbcplldeaaSxE
import Derived.Test.YtglepnbcplldeaaG7
namespace Go.Proofs.Ytglepnbcplldeaa.fnExactSameMb
open Go.Proofs.Ytglepnbcplldeaa Go.Sx Go.ChangeShapes Go.WideShapes Go.ChangeAt Go.RowKit

theorem op111 {H : Type} {enc : TypeId × Value → H} {W : World} {cs : List Value} (h : Tr enc Try.prog W 111 cs) :
    ∃ (n0 : Int) (n1 : List Int) (p1 : Option Addr) (c1c : Nat), cs = [.int .i64 n0, .slice p1 n1.length c1c] ∧ (Lit.int .i64 n0).wf = true ∧ Sl W p1 n1.length c1c 1 (ic n1) ∧ (∀ x ∈ n1, -9223372036854775808 ≤ x ∧ x ≤ 9223372036854775807) ∧ n1.length ≤ maxLen := by
  obtain ⟨hl, hf⟩ := op_struct Try.underlying111 h
  rw [show Try.prog.cellsOf 111 = 2 by kernel_rfl] at hl
  have z3 : Try.prog.cellsOf 3 = 1 := by kernel_rfl
  have z53 : Try.prog.cellsOf 53 = 1 := by kernel_rfl
  obtain ⟨c0, c1, rfl⟩ := len2 hl
  simp only [List.mem_cons, List.not_mem_nil, or_false, forall_eq_or_imp, forall_eq, z3, z53, List.drop_zero, List.drop_succ_cons, List.take_succ_cons, List.take_zero] at hf
  obtain ⟨f0, f1⟩ := hf
  obtain ⟨n0, e0, h0⟩ := op_int Try.underlying3 f0
  obtain ⟨p1, c1c, n1, e1, h1, hr1, hm1⟩ := op_ints Try.underlying53 Try.underlying3 (by kernel_rfl) f1
  simp only [List.cons.injEq, and_true] at e0 e1
  subst e0 e1
  exact ⟨n0, n1, p1, c1c, rfl, h0, h1, hr1, hm1⟩
theorem op68 {H : Type} {enc : TypeId × Value → H} {W : World} {cs : List Value} (h : Tr enc Try.prog W 68 cs) :
    ∃ (p : Option Addr) (c : Nat) (xs : List Bk), cs = [.slice p xs.length c] ∧ Sl W p xs.length c 2 (xs.flatMap brow) ∧ (∀ x ∈ xs, (GoodB W) x) ∧ xs.length ≤ maxLen := by
  obtain ⟨p, c, xs, h1, h2, h3⟩ := op_rows brow (GoodB W) Try.underlying68 (by kernel_rfl) brow_len (fun es h => by obtain ⟨n0, n1, p1, c1c, e, b0, s1, r1, l1⟩ := op111 h; exact ⟨⟨n0, p1, n1, c1c, []⟩, e, s1, l1, by simpa [Lit.wf, IntKind.min, IntKind.max, IntKind.signed, IntKind.bits] using b0, r1⟩) h
  exact ⟨p, c, xs, h1, h2, h3, Nat.le_trans h2.cap h2.mx⟩
theorem op70 {H : Type} {enc : TypeId × Value → H} {W : World} {cs : List Value} (h : Tr enc Try.prog W 70 cs) :
    ∃ (n0 : Bool) (n1 : List Bk) (p1 : Option Addr) (c1c : Nat), cs = [.bool n0, .slice p1 n1.length c1c] ∧ Sl W p1 n1.length c1c 2 (n1.flatMap brow) ∧ (∀ x ∈ n1, GoodB W x) ∧ n1.length ≤ maxLen := by
  obtain ⟨hl, hf⟩ := op_struct Try.underlying70 h
  rw [show Try.prog.cellsOf 70 = 2 by kernel_rfl] at hl
  have z4 : Try.prog.cellsOf 4 = 1 := by kernel_rfl
  have z68 : Try.prog.cellsOf 68 = 1 := by kernel_rfl
  obtain ⟨c0, c1, rfl⟩ := len2 hl
  simp only [List.mem_cons, List.not_mem_nil, or_false, forall_eq_or_imp, forall_eq, z4, z68, List.drop_zero, List.drop_succ_cons, List.take_succ_cons, List.take_zero] at hf
  obtain ⟨f0, f1⟩ := hf
  obtain ⟨n0, e0⟩ := op_bool Try.underlying4 f0
  obtain ⟨p1, c1c, n1, e1, h1, hr1, hm1⟩ := op68 f1
  simp only [List.cons.injEq, and_true] at e0 e1
  subst e0 e1
  exact ⟨n0, n1, p1, c1c, rfl, h1, hr1, hm1⟩
theorem own : ownKnob Try.prog.godebug = none := by kernel_rfl
theorem laidOut : laidOutB Try.prog = true := by kernel_rfl

set_option maxRecDepth 100000 in
theorem contract (H : Type) (enc : TypeId × Value → H) (W : World) (base : Nat) (args : Array Value) (ds gs : List (DataW H)) (before : List MemPlace)
    (hval : ∀ (j : Nat) t v, Try.f15.params[j]? = some t → args[j]? = some v → Value.okWide Try.prog W .any base t v)
    (hW : DataW.Whole enc Try.prog Try.f15.params.toList Rows.fnExactSameMbSpec.vars false W args.toList ds gs before) :
    Calls Try.prog 15 args W fun e W' => ∃ v, e = .returned v ∧ Rows.fnExactSameMbSpec.post enc Try.prog Try.f15 false true false false W args v W' := by
  have hW' := hW
  obtain ⟨p, q, hA0, hV, rfl, hfz, hnd⟩ := hW
  have hA : DataW.TrodAll enc Try.prog W 0 (fun _ => true) true Try.f15.params.toList args.toList ds p := hA0
  rw [Try.params15] at hA hval
  obtain ⟨v0, vs0, d0, ds0, p0, q0, hargs, rfl, rfl, h0, r0⟩ := trodAll_cons hA
  obtain ⟨v1, vs1, d1, ds1, p1, q1, rfl, rfl, rfl, h1, r1⟩ := trodAll_cons r0
  obtain ⟨rfl, rfl, rfl⟩ := trodAll_nil r1
  obtain rfl : args = #[v0, v1] := by cases args; simp_all
  obtain ⟨rfl, rfl⟩ := trodVars_none hV
  clear hA hA0 hV hfz hnd
  obtain ⟨cs0, rfl⟩ := ok_agg Try.underlying70 (hval 0 70 v0 rfl rfl)
  have t0 : Tr enc Try.prog W 70 cs0.toList := by obtain ⟨fuel, h⟩ := h0; exact ⟨fuel, _, h⟩
  obtain ⟨a0_0, a0_1, a0_1p, a0_1c, e0, a0_1s, a0_1r, a0_1l⟩ := op70 t0
  obtain rfl : cs0 = List.toArray _ := Array.toList_inj.1 (by simpa using e0)
  simp only [maxLen] at a0_1l
  obtain ⟨cs1, rfl⟩ := ok_agg Try.underlying70 (hval 1 70 v1 rfl rfl)
  have t1 : Tr enc Try.prog W 70 cs1.toList := by obtain ⟨fuel, h⟩ := h1; exact ⟨fuel, _, h⟩
  obtain ⟨a1_0, a1_1, a1_1p, a1_1c, e1, a1_1s, a1_1r, a1_1l⟩ := op70 t1
  obtain rfl : cs1 = List.toArray _ := Array.toList_inj.1 (by simpa using e1)
  simp only [maxLen] at a1_1l
  refine (l_fnSameMb _ _ _ _ _ _ _ _ W ⟨a0_1s, fun b h => (a0_1r b h).1⟩ ⟨a1_1s, fun b h => (a1_1r b h).1⟩ (by omega) (fun b h => by have := (a0_1r b h).2.1; simp only [maxLen] at this; omega) (by omega) (fun b h => by have := (a1_1r b h).2.1; simp only [maxLen] at this; omega)).mono fun e W' ⟨he, hx⟩ => ?_
  subst he
  exact ⟨_, rfl, law_post laidOut rfl (by kernel_rfl) rfl Try.underlying4 hW' rfl rfl rfl hx⟩

set_option maxRecDepth 100000 in
theorem lifted (os : Os) (started : os.Started) (H : Type) (enc : TypeId × Value → H) :
    ReturnsInHanded {} Try.checked os 15 .any (Rows.fnExactSameMbSpec.pre6 enc Try.prog Try.f15 Rows.fnExactSameMbRow.domain false) (Rows.fnExactSameMbSpec.post enc Try.prog Try.f15 false true false false) := by
  refine returnsInHanded_of_change (C := Try.checked) own started (by kernel_rfl) Try.func15
    (ChangeSpec.witness6 (enc := enc) (C := Try.checked) false ⟨#[], #[.agg #[.bool false, .slice none 0 0], .agg #[.bool false, .slice none 0 0]], []⟩ 8 (by kernel_rfl) (by kernel_rfl) (by kernel_rfl) (by kernel_rfl)) ?_
  intro W base args ds gs before hval hW _ _
  exact contract H enc W base args ds gs before hval hW

theorem proved : Rows.FnExactSameMbSaid :=
  OpenClaim.holds_of_wide 15 Try.f15 rfl rfl rfl rfl rfl rfl rfl ⟨rfl, rfl, rfl, rfl, rfl⟩ rfl rfl rfl rfl rfl (by kernel_rfl) Try.func15 (by kernel_rfl)
    (of_decide_eq_true (by kernel_rfl)) (by unfold Func.isWrapper; first | (rw [if_pos (by decide +kernel)]; kernel_rfl) | (rw [if_neg (by decide +kernel)]; exact ⟨rfl, rfl⟩))
    (fun os started H enc _ => lifted os started H enc)
end Go.Proofs.Ytglepnbcplldeaa.fnExactSameMb
