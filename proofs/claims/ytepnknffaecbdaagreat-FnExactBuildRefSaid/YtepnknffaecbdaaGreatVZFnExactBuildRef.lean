/- FnExactBuildRef returns true, for every argument. No condition. -/
import Derived.Test.YtepnknffaecbdaaGreatRows
import Derived.Test.YtepnknffaecbdaaGreatVSxA
import Derived.Test.YtepnknffaecbdaaGreatVHH
namespace Go.Proofs.YtepnknffaecbdaaGreat.fnExactBuildRef
open Go.Proofs.YtepnknffaecbdaaGreat Go.Sx Go.ChangeShapes Go.WideShapes Go.ChangeAt Go.RowKit

theorem op45 {H : Type} {enc : TypeId × Value → H} {W : World} {cs : List Value} (h : Tr enc Tryz.prog W 45 cs) :
    ∃ (n_0 : Int) (n_1 : Int) (n_2 : Int) (n_3 : Bool) (n_4 : Bool) (n_5 : List Int) (n_5p : Option Addr) (n_5c : Nat), cs = [.int .i64 n_0, .int .i64 n_1, .int .i64 n_2, .bool n_3, .bool n_4, .slice n_5p n_5.length n_5c] ∧ (Lit.int .i64 n_0).wf = true ∧ (Lit.int .i64 n_1).wf = true ∧ (Lit.int .i64 n_2).wf = true ∧ Sl W n_5p n_5.length n_5c 1 (ic n_5) ∧ (∀ x ∈ n_5, -9223372036854775808 ≤ x ∧ x ≤ 9223372036854775807) ∧ n_5.length ≤ maxLen := by
  obtain ⟨hl, hf⟩ := op_struct Tryz.underlying45 h
  rw [show Tryz.prog.cellsOf 45 = 6 by kernel_rfl] at hl
  have z3 : Tryz.prog.cellsOf 3 = 1 := by kernel_rfl
  have z4 : Tryz.prog.cellsOf 4 = 1 := by kernel_rfl
  have z24 : Tryz.prog.cellsOf 24 = 1 := by kernel_rfl
  obtain ⟨c0, c1, c2, c3, c4, c5, rfl⟩ := len6 hl
  simp only [List.mem_cons, List.not_mem_nil, or_false, forall_eq_or_imp, forall_eq, z3, z4, z24, List.drop_zero, List.drop_succ_cons, List.take_succ_cons, List.take_zero] at hf
  obtain ⟨f0, f1, f2, f3, f4, f5⟩ := hf
  obtain ⟨n_0, e0, n_0b⟩ := op_int Tryz.underlying3 f0
  obtain ⟨n_1, e1, n_1b⟩ := op_int Tryz.underlying3 f1
  obtain ⟨n_2, e2, n_2b⟩ := op_int Tryz.underlying3 f2
  obtain ⟨n_3, e3⟩ := op_bool Tryz.underlying4 f3
  obtain ⟨n_4, e4⟩ := op_bool Tryz.underlying4 f4
  obtain ⟨n_5p, n_5c, n_5, e5, n_5s, n_5r, n_5l⟩ := op_ints Tryz.underlying24 Tryz.underlying3 (by kernel_rfl) f5
  simp only [List.cons.injEq, and_true] at e0 e1 e2 e3 e4 e5
  subst e0
  subst e1
  subst e2
  subst e3
  subst e4
  subst e5
  exact ⟨n_0, n_1, n_2, n_3, n_4, n_5, n_5p, n_5c, rfl, n_0b, n_1b, n_2b, n_5s, n_5r, n_5l⟩
theorem op193 {H : Type} {enc : TypeId × Value → H} {W : World} {cs : List Value} (h : Tr enc Tryz.prog W 193 cs) :
    ∃ (n_0 : Int) (n_1 : List Int) (n_1p : Option Addr) (n_1c : Nat), cs = [.int .i64 n_0, .slice n_1p n_1.length n_1c] ∧ (Lit.int .i64 n_0).wf = true ∧ Sl W n_1p n_1.length n_1c 1 (ic n_1) ∧ (∀ x ∈ n_1, -9223372036854775808 ≤ x ∧ x ≤ 9223372036854775807) ∧ n_1.length ≤ maxLen := by
  obtain ⟨hl, hf⟩ := op_struct Tryz.underlying193 h
  rw [show Tryz.prog.cellsOf 193 = 2 by kernel_rfl] at hl
  have z3 : Tryz.prog.cellsOf 3 = 1 := by kernel_rfl
  have z24 : Tryz.prog.cellsOf 24 = 1 := by kernel_rfl
  obtain ⟨c0, c1, rfl⟩ := len2 hl
  simp only [List.mem_cons, List.not_mem_nil, or_false, forall_eq_or_imp, forall_eq, z3, z24, List.drop_zero, List.drop_succ_cons, List.take_succ_cons, List.take_zero] at hf
  obtain ⟨f0, f1⟩ := hf
  obtain ⟨n_0, e0, n_0b⟩ := op_int Tryz.underlying3 f0
  obtain ⟨n_1p, n_1c, n_1, e1, n_1s, n_1r, n_1l⟩ := op_ints Tryz.underlying24 Tryz.underlying3 (by kernel_rfl) f1
  simp only [List.cons.injEq, and_true] at e0 e1
  subst e0
  subst e1
  exact ⟨n_0, n_1, n_1p, n_1c, rfl, n_0b, n_1s, n_1r, n_1l⟩
theorem op137 {H : Type} {enc : TypeId × Value → H} {W : World} {cs : List Value} (h : Tr enc Tryz.prog W 137 cs) :
    ∃ (p : Option Addr) (c : Nat) (xs : List Bk), cs = [.slice p xs.length c] ∧ Sl W p xs.length c 2 (xs.flatMap brow) ∧ (∀ x ∈ xs, (GoodB W) x) ∧ xs.length ≤ maxLen := by
  obtain ⟨p, c, xs, h1, h2, h3⟩ := op_rows brow (GoodB W) Tryz.underlying137 (by kernel_rfl) brow_len (fun es h => by obtain ⟨n0, n1, p1, c1c, e, b0, s1, r1, l1⟩ := op193 h; exact ⟨⟨n0, p1, n1, c1c, []⟩, e, s1, l1, by simpa [Lit.wf, IntKind.min, IntKind.max, IntKind.signed, IntKind.bits] using b0, r1⟩) h
  exact ⟨p, c, xs, h1, h2, h3, Nat.le_trans h2.cap h2.mx⟩
theorem op139 {H : Type} {enc : TypeId × Value → H} {W : World} {cs : List Value} (h : Tr enc Tryz.prog W 139 cs) :
    ∃ (n_0 : Bool) (n_1 : List Bk) (n_1p : Option Addr) (n_1c : Nat), cs = [.bool n_0, .slice n_1p n_1.length n_1c] ∧ Sl W n_1p n_1.length n_1c 2 (n_1.flatMap brow) ∧ (∀ x ∈ n_1, GoodB W x) ∧ n_1.length ≤ maxLen := by
  obtain ⟨hl, hf⟩ := op_struct Tryz.underlying139 h
  rw [show Tryz.prog.cellsOf 139 = 2 by kernel_rfl] at hl
  have z4 : Tryz.prog.cellsOf 4 = 1 := by kernel_rfl
  have z137 : Tryz.prog.cellsOf 137 = 1 := by kernel_rfl
  obtain ⟨c0, c1, rfl⟩ := len2 hl
  simp only [List.mem_cons, List.not_mem_nil, or_false, forall_eq_or_imp, forall_eq, z4, z137, List.drop_zero, List.drop_succ_cons, List.take_succ_cons, List.take_zero] at hf
  obtain ⟨f0, f1⟩ := hf
  obtain ⟨n_0, e0⟩ := op_bool Tryz.underlying4 f0
  obtain ⟨n_1p, n_1c, n_1, e1, n_1s, n_1r, n_1l⟩ := op137 f1
  simp only [List.cons.injEq, and_true] at e0 e1
  subst e0
  subst e1
  exact ⟨n_0, n_1, n_1p, n_1c, rfl, n_1s, n_1r, n_1l⟩
theorem op46 {H : Type} {enc : TypeId × Value → H} {W : World} {cs : List Value} (h : Tr enc Tryz.prog W 46 cs) :
    ∃ (p : Option Addr) (c : Nat) (xs : List Mk), cs = [.slice p xs.length c] ∧ Sl W p xs.length c 2 (xs.flatMap mrow) ∧ (∀ x ∈ xs, (GoodM W) x) ∧ xs.length ≤ maxLen := by
  obtain ⟨p, c, xs, h1, h2, h3⟩ := op_rows mrow (GoodM W) Tryz.underlying46 (by kernel_rfl) mrow_len (fun es h => by obtain ⟨n0, n1, p1, c1c, e, s1, r1, l1⟩ := op139 h; exact ⟨⟨n0, p1, n1, c1c, []⟩, e, s1, l1, r1⟩) h
  exact ⟨p, c, xs, h1, h2, h3, Nat.le_trans h2.cap h2.mx⟩
theorem op48 {H : Type} {enc : TypeId × Value → H} {W : World} {cs : List Value} (h : Tr enc Tryz.prog W 48 cs) :
    ∃ (n_0_0 : Int) (n_0_1 : Int) (n_0_2 : Int) (n_0_3 : Bool) (n_0_4 : Bool) (n_0_5 : List Int) (n_0_5p : Option Addr) (n_0_5c : Nat) (n_1 : List Mk) (n_1p : Option Addr) (n_1c : Nat), cs = [.int .i64 n_0_0, .int .i64 n_0_1, .int .i64 n_0_2, .bool n_0_3, .bool n_0_4, .slice n_0_5p n_0_5.length n_0_5c, .slice n_1p n_1.length n_1c] ∧ (Lit.int .i64 n_0_0).wf = true ∧ (Lit.int .i64 n_0_1).wf = true ∧ (Lit.int .i64 n_0_2).wf = true ∧ Sl W n_0_5p n_0_5.length n_0_5c 1 (ic n_0_5) ∧ (∀ x ∈ n_0_5, -9223372036854775808 ≤ x ∧ x ≤ 9223372036854775807) ∧ n_0_5.length ≤ maxLen ∧ Sl W n_1p n_1.length n_1c 2 (n_1.flatMap mrow) ∧ (∀ x ∈ n_1, GoodM W x) ∧ n_1.length ≤ maxLen := by
  obtain ⟨hl, hf⟩ := op_struct Tryz.underlying48 h
  rw [show Tryz.prog.cellsOf 48 = 7 by kernel_rfl] at hl
  have z45 : Tryz.prog.cellsOf 45 = 6 := by kernel_rfl
  have z46 : Tryz.prog.cellsOf 46 = 1 := by kernel_rfl
  obtain ⟨c0, c1, c2, c3, c4, c5, c6, rfl⟩ := len7 hl
  simp only [List.mem_cons, List.not_mem_nil, or_false, forall_eq_or_imp, forall_eq, z45, z46, List.drop_zero, List.drop_succ_cons, List.take_succ_cons, List.take_zero] at hf
  obtain ⟨f0, f1⟩ := hf
  obtain ⟨n_0_0, n_0_1, n_0_2, n_0_3, n_0_4, n_0_5, n_0_5p, n_0_5c, e0, n_0_0b, n_0_1b, n_0_2b, n_0_5s, n_0_5r, n_0_5l⟩ := op45 f0
  obtain ⟨n_1p, n_1c, n_1, e1, n_1s, n_1r, n_1l⟩ := op46 f1
  simp only [List.cons.injEq, and_true] at e0 e1
  obtain ⟨rfl, rfl, rfl, rfl, rfl, rfl⟩ := e0
  subst e1
  exact ⟨n_0_0, n_0_1, n_0_2, n_0_3, n_0_4, n_0_5, n_0_5p, n_0_5c, n_1, n_1p, n_1c, rfl, n_0_0b, n_0_1b, n_0_2b, n_0_5s, n_0_5r, n_0_5l, n_1s, n_1r, n_1l⟩
theorem own : ownKnob Tryz.prog.godebug = none := by kernel_rfl
theorem laidOut : laidOutB Tryz.prog = true := by kernel_rfl

set_option maxRecDepth 100000 in
theorem contract (H : Type) (enc : TypeId × Value → H) (W : World) (base : Nat) (args : Array Value) (ds gs : List (DataW H)) (before : List MemPlace)
    (hval : ∀ (j : Nat) t v, Tryz.f5.params[j]? = some t → args[j]? = some v → Value.okWide Tryz.prog W .any base t v)
    (hW : DataW.Whole enc Tryz.prog Tryz.f5.params.toList Rows.fnExactBuildRefSpec.vars false W args.toList ds gs before) :
    Calls Tryz.prog 5 args W fun e W' => ∃ v, e = .returned v ∧ Rows.fnExactBuildRefSpec.post enc Tryz.prog Tryz.f5 false true false false W args v W' := by
  have hW' := hW
  obtain ⟨p, q, hA0, hV, rfl, hfz, hnd⟩ := hW
  have hA : DataW.TrodAll enc Tryz.prog W 0 (fun _ => true) true Tryz.f5.params.toList args.toList ds p := hA0
  rw [Tryz.params5] at hA hval
  obtain ⟨v0, vs0, d0, ds0, p0, q0, hargs, rfl, rfl, h0, r0⟩ := trodAll_cons hA
  obtain ⟨rfl, rfl, rfl⟩ := trodAll_nil r0
  obtain rfl : args = #[v0] := by cases args; simp_all
  obtain ⟨rfl, rfl⟩ := trodVars_none hV
  clear hA hA0 hV hfz hnd
  obtain ⟨cs0, rfl⟩ := ok_agg Tryz.underlying48 (hval 0 48 v0 rfl rfl)
  have t0 : Tr enc Tryz.prog W 48 cs0.toList := by obtain ⟨fuel, h⟩ := h0; exact ⟨fuel, _, h⟩
  obtain ⟨a0_0_0, a0_0_1, a0_0_2, a0_0_3, a0_0_4, a0_0_5, a0_0_5p, a0_0_5c, a0_1, a0_1p, a0_1c, e0, a0_0_0b, a0_0_1b, a0_0_2b, a0_0_5s, a0_0_5r, a0_0_5l, a0_1s, a0_1r, a0_1l⟩ := op48 t0
  obtain rfl : cs0 = List.toArray _ := Array.toList_inj.1 (by simpa using e0)
  have a0_0_0b : -9223372036854775808 ≤ a0_0_0 ∧ a0_0_0 ≤ 9223372036854775807 := by simpa [Lit.wf, IntKind.min, IntKind.max, IntKind.signed, IntKind.bits] using a0_0_0b
  have a0_0_1b : -9223372036854775808 ≤ a0_0_1 ∧ a0_0_1 ≤ 9223372036854775807 := by simpa [Lit.wf, IntKind.min, IntKind.max, IntKind.signed, IntKind.bits] using a0_0_1b
  have a0_0_2b : -9223372036854775808 ≤ a0_0_2 ∧ a0_0_2 ≤ 9223372036854775807 := by simpa [Lit.wf, IntKind.min, IntKind.max, IntKind.signed, IntKind.bits] using a0_0_2b
  simp only [maxLen] at a0_0_5l
  simp only [maxLen] at a0_1l
  refine (l_fnBuildRef _ _ _ _ _ _ _ _ _ _ _  W a0_0_5s ⟨a0_1s, fun m hm => (a0_1r m hm).rd⟩ (by omega) (by omega) (fun m hm => ⟨by have := (a0_1r m hm).2.1; simp only [maxLen] at this; omega, fun b hb => by have := ((a0_1r m hm).2.2 b hb).2.1; simp only [maxLen] at this; omega⟩)).mono fun e W' ⟨he, hx⟩ => ?_
  subst he
  exact ⟨_, rfl, law_post laidOut rfl (by kernel_rfl) rfl Tryz.underlying4 hW' rfl rfl rfl hx⟩

set_option maxRecDepth 100000 in
theorem lifted (os : Os) (started : os.Started) (H : Type) (enc : TypeId × Value → H) :
    ReturnsInHanded {} Tryz.checked os 5 .any (Rows.fnExactBuildRefSpec.pre6 enc Tryz.prog Tryz.f5 Rows.fnExactBuildRefRow.domain false) (Rows.fnExactBuildRefSpec.post enc Tryz.prog Tryz.f5 false true false false) := by
  refine returnsInHanded_of_change (C := Tryz.checked) own started (by kernel_rfl) Tryz.func5
    (ChangeSpec.witness6 (enc := enc) (C := Tryz.checked) false ⟨#[], #[.agg #[.int .i64 0, .int .i64 0, .int .i64 0, .bool false, .bool false, .slice none 0 0, .slice none 0 0]], []⟩ 8 (by kernel_rfl) (by kernel_rfl) (by kernel_rfl) (by kernel_rfl)) ?_
  intro W base args ds gs before hval hW _ _
  exact contract H enc W base args ds gs before hval hW

theorem proved : Rows.FnExactBuildRefSaid :=
  OpenClaim.holds_of_wide 5 Tryz.f5 rfl rfl rfl rfl rfl rfl rfl ⟨rfl, rfl, rfl, rfl, rfl⟩ rfl rfl rfl rfl rfl (by kernel_rfl) Tryz.func5 (by kernel_rfl)
    (of_decide_eq_true (by kernel_rfl)) (by unfold Func.isWrapper; first | (rw [if_pos (by decide +kernel)]; kernel_rfl) | (rw [if_neg (by decide +kernel)]; exact ⟨rfl, rfl⟩))
    (fun os started H enc _ => lifted os started H enc)
end Go.Proofs.YtepnknffaecbdaaGreat.fnExactBuildRef
