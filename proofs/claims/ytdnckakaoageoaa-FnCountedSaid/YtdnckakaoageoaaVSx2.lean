/- One lemma for each kind of operation. -/
import Derived.Test.YtdnckakaoageoaaVSx1
namespace Go.Sx
open Go.RowKit

theorem wrap_in {z : Int} (h : -9223372036854775808 ≤ z ∧ z ≤ 9223372036854775807) : IntKind.i64.wrap z = z := IntWalk.i64_in z h

section ops
variable {P : Program} {n : Nat} {E : Env} {ty T T' : TypeId} {x y z : Operand} {v : Value} {a b : Int} {k : IntKind}

theorem x_move (hx : opd n E x = v) : X0 P n E (.move x) ty v := by
  intro w dst pos after g; subst hx; simp [execOp, eval_mk]
theorem x_assign (hx : opd n E x = v) : X0 P n E (.assign x) ty v := by
  intro w dst pos after g; subst hx; simp [execOp, eval_mk]
theorem x_pickt (hc : opd n E z = .bool true) (hx : opd n E x = v) : X0 P n E (.pick z x y) ty v := by
  intro w dst pos after g; subst hx; simp [execOp, eval_mk, hc, asBool]
theorem x_pickf (hc : opd n E z = .bool false) (hx : opd n E y = v) : X0 P n E (.pick z x y) ty v := by
  intro w dst pos after g; subst hx; simp [execOp, eval_mk, hc, asBool]

theorem x_bin {op : BinOp} {u : Value} {v : Value} {u' : Value} (hx : opd n E x = u) (hy : opd n E y = u') (hg : ∀ w, (eqGuard op T x y u u').run P w = .ok () w) (h : ∀ w, (binOp op T u u').run P w = .ok v w) : X0 P n E (.binOp op T x y T') ty v := by
  intro w dst pos after g
  simp [execOp, eval_mk, hx, hy, hg, h]

theorem eqGuard_int (op : BinOp) (k k' : IntKind) (w : World) : (eqGuard op T x y (.int k a) (.int k' b)).run P w = .ok () w := by
  unfold eqGuard; split <;> simp
theorem x_addk (hx : opd n E x = .int k a) (hy : opd n E y = .int k b) : X0 P n E (.binOp .add T x y T') ty (.int k (k.wrap (a + b))) :=
  x_bin hx hy (eqGuard_int _ _ _) fun w => by simp [binOp, Op.intArith]
theorem x_subk (hx : opd n E x = .int k a) (hy : opd n E y = .int k b) : X0 P n E (.binOp .sub T x y T') ty (.int k (k.wrap (a - b))) :=
  x_bin hx hy (eqGuard_int _ _ _) fun w => by simp [binOp, Op.intArith]
theorem x_mulk (hx : opd n E x = .int k a) (hy : opd n E y = .int k b) : X0 P n E (.binOp .mul T x y T') ty (.int k (k.wrap (a * b))) :=
  x_bin hx hy (eqGuard_int _ _ _) fun w => by simp [binOp, Op.intArith]
theorem x_add (hx : opd n E x = .int .i64 a) (hy : opd n E y = .int .i64 b) (h : -9223372036854775808 ≤ a + b ∧ a + b ≤ 9223372036854775807) : X0 P n E (.binOp .add T x y T') ty (.int .i64 (a + b)) := by
  have := x_addk (P := P) (T := T) (T' := T') (ty := ty) hx hy; rwa [wrap_in h] at this
theorem x_sub (hx : opd n E x = .int .i64 a) (hy : opd n E y = .int .i64 b) (h : -9223372036854775808 ≤ a - b ∧ a - b ≤ 9223372036854775807) : X0 P n E (.binOp .sub T x y T') ty (.int .i64 (a - b)) := by
  have := x_subk (P := P) (T := T) (T' := T') (ty := ty) hx hy; rwa [wrap_in h] at this
theorem x_mul (hx : opd n E x = .int .i64 a) (hy : opd n E y = .int .i64 b) (h : -9223372036854775808 ≤ a * b ∧ a * b ≤ 9223372036854775807) : X0 P n E (.binOp .mul T x y T') ty (.int .i64 (a * b)) := by
  have := x_mulk (P := P) (T := T) (T' := T') (ty := ty) hx hy; rwa [wrap_in h] at this
theorem x_quok (hx : opd n E x = .int k a) (hy : opd n E y = .int k b) (hb : b ≠ 0) : X0 P n E (.binOp .quo T x y T') ty (.int k (k.wrap (a.tdiv b))) :=
  x_bin hx hy (eqGuard_int _ _ _) fun w => by simp [binOp, Op.intDiv, hb]
theorem x_remk (hx : opd n E x = .int k a) (hy : opd n E y = .int k b) (hb : b ≠ 0) : X0 P n E (.binOp .rem T x y T') ty (.int k (a.tmod b)) :=
  x_bin hx hy (eqGuard_int _ _ _) fun w => by simp [binOp, Op.intDiv, hb]
theorem x_quo (hx : opd n E x = .int .i64 a) (hy : opd n E y = .int .i64 b) (ha : 0 ≤ a ∧ a ≤ 9223372036854775807) (hb : 0 < b) : X0 P n E (.binOp .quo T x y T') ty (.int .i64 (a / b)) := by
  have h := x_quok (P := P) (T := T) (T' := T') (ty := ty) hx hy (by omega)
  have h2 : a.tdiv b = a / b := Int.tdiv_eq_ediv_of_nonneg ha.1
  have h3 : 0 ≤ a / b := Int.ediv_nonneg ha.1 (by omega)
  have h4 : a / b ≤ a := Int.ediv_le_self _ ha.1
  rwa [h2, wrap_in ⟨by omega, by omega⟩] at h
theorem x_rem (hx : opd n E x = .int k a) (hy : opd n E y = .int k b) (ha : 0 ≤ a) (hb : 0 < b) : X0 P n E (.binOp .rem T x y T') ty (.int k (a % b)) := by
  have h := x_remk (P := P) (T := T) (T' := T') (ty := ty) hx hy (by omega)
  rwa [Int.tmod_eq_emod_of_nonneg ha] at h
theorem x_shlk {k' : IntKind} (hx : opd n E x = .int k a) (hy : opd n E y = .int k' b) (hb : 0 ≤ b ∧ b < k.bits) : X0 P n E (.binOp .shl T x y T') ty (.int k (k.wrap (a * 2 ^ b.toNat))) :=
  x_bin hx hy (eqGuard_int _ _ _) fun w => by
    have h1 : ¬ b < 0 := by omega
    have h2 : min b.toNat k.bits = b.toNat := by omega
    simp [binOp, Op.shift, h1, h2]
theorem x_shl {k' : IntKind} (hx : opd n E x = .int .i64 a) (hy : opd n E y = .int k' b) (hb : 0 ≤ b ∧ b < 64) (h : -9223372036854775808 ≤ a * 2 ^ b.toNat ∧ a * 2 ^ b.toNat ≤ 9223372036854775807) : X0 P n E (.binOp .shl T x y T') ty (.int .i64 (a * 2 ^ b.toNat)) := by
  have h1 := x_shlk (P := P) (T := T) (T' := T') (ty := ty) hx hy (by simpa [IntKind.bits] using hb); rwa [wrap_in h] at h1
theorem x_shr {k' : IntKind} (hx : opd n E x = .int k a) (hy : opd n E y = .int k' b) (hb : 0 ≤ b ∧ b ≤ k.bits) : X0 P n E (.binOp .shr T x y T') ty (.int k (a / 2 ^ b.toNat)) :=
  x_bin hx hy (eqGuard_int _ _ _) fun w => by
    have h1 : ¬ b < 0 := by omega
    have h2 : min b.toNat k.bits = b.toNat := by omega
    have h3 : a.fdiv (2 ^ b.toNat) = a / 2 ^ b.toNat := Int.fdiv_eq_ediv_of_nonneg _ (Int.pow_nonneg (by omega))
    simp [binOp, Op.shift, h1, h2, h3]
theorem x_bits {op : BinOp} (hop : op = .and ∨ op = .or ∨ op = .xor) (hx : opd n E x = .int k a) (hy : opd n E y = .int k b) : X0 P n E (.binOp op T x y T') ty (.int k (bits op k a b)) :=
  x_bin hx hy (eqGuard_int _ _ _) fun w => by rcases hop with rfl | rfl | rfl <;> simp [binOp, Op.intBits, bits]

theorem x_lss (hx : opd n E x = .int k a) (hy : opd n E y = .int k b) : X0 P n E (.binOp .lss T x y T') ty (.bool (decide (a < b))) :=
  x_bin hx hy (eqGuard_int _ _ _) fun w => by simp [binOp, Op.intCmp]
theorem x_leq (hx : opd n E x = .int k a) (hy : opd n E y = .int k b) : X0 P n E (.binOp .leq T x y T') ty (.bool (decide (a ≤ b))) :=
  x_bin hx hy (eqGuard_int _ _ _) fun w => by simp [binOp, Op.intCmp]
theorem x_gtr (hx : opd n E x = .int k a) (hy : opd n E y = .int k b) : X0 P n E (.binOp .gtr T x y T') ty (.bool (decide (b < a))) :=
  x_bin hx hy (eqGuard_int _ _ _) fun w => by simp [binOp, Op.intCmp]
theorem x_geq (hx : opd n E x = .int k a) (hy : opd n E y = .int k b) : X0 P n E (.binOp .geq T x y T') ty (.bool (decide (b ≤ a))) :=
  x_bin hx hy (eqGuard_int _ _ _) fun w => by simp [binOp, Op.intCmp]
theorem x_eql (hx : opd n E x = .int k a) (hy : opd n E y = .int k b) : X0 P n E (.binOp .eql T x y T') ty (.bool (decide (a = b))) :=
  x_bin hx hy (eqGuard_int _ _ _) fun w => by simp only [binOp, Op.intCmp]; simp; rfl
theorem x_neq (hx : opd n E x = .int k a) (hy : opd n E y = .int k b) : X0 P n E (.binOp .neq T x y T') ty (.bool (decide (a ≠ b))) :=
  x_bin hx hy (eqGuard_int _ _ _) fun w => by simp only [binOp, Op.intCmp]; simp [bne]; rfl

theorem x_not {p : Bool} (hx : opd n E x = .bool p) : X0 P n E (.unOp .not T x) ty (.bool (!p)) := by
  intro w dst pos after g; simp [execOp, eval_mk, hx, Op.unary]
theorem x_convk {k' : IntKind} (hs : (P.underlying T).isSome = true) (hd : P.underlying T' = some (.int k')) (hx : opd n E x = .int k a) : X0 P n E (.convert T T' x) ty (.int k' (k'.wrap a)) := by
  intro w dst pos after g
  have hk : P.intKind T' = k' := by simp [Program.intKind, hd]
  have h1 := run_convert_int w T T' k a hs (by rw [hk]; exact hd)
  rw [hk] at h1
  simp [execOp, eval_mk, hx, h1]
theorem x_conv {k' : IntKind} (hs : (P.underlying T).isSome = true) (hd : P.underlying T' = some (.int k')) (hx : opd n E x = .int k a) (h : k'.wrap a = a) : X0 P n E (.convert T T' x) ty (.int k' a) := by
  have h1 := x_convk (P := P) (ty := ty) hs hd hx; rwa [h] at h1

theorem x_lensl {e : TypeId} {base : Option Addr} {m c : Nat} (hT : P.underlying T = some (.slice e)) (hx : opd n E x = .slice base m c) : X0 P n E (.call { callee := .builtin .len, args := [x].toArray, argTypes := [T].toArray }) ty (.int .i64 m) := by
  intro w dst pos after g
  simp [execOp, eval_mk, hx, resolve, invoke, builtin, Builtin.len_, run_underlying hT, goInt]
theorem x_extract {vs : List Value} {i : Nat} (hx : opd n E x = .tuple vs.toArray) (hv : vs[i]? = some v) : X0 P n E (.extract x i) ty v := by
  intro w dst pos after g
  simp [execOp, eval_mk, hx, Instr.extract, hv]
theorem x_index {s : ByteArray} {i : Int} (hT : P.underlying T = some .string) (hx : opd n E x = .string s) (hy : opd n E y = .int k i) (h0 : 0 ≤ i) (h1 : i < s.size) : X0 P n E (.index T x y) ty (.int .u8 (s.data.toList.getD i.toNat 0).toNat) := by
  intro w dst pos after g
  have h2 : i.toNat < s.size := by omega
  have h3 : i.toNat < s.data.size := h2
  have h4 : s[i.toNat]? = some (s.data.toList.getD i.toNat 0) := by
    rw [getElem?_pos s i.toNat h2, List.getD_eq_getElem?_getD, Array.getElem?_toList, Array.getElem?_eq_getElem h3]
    rfl
  simp [execOp, eval_mk, hx, hy, Instr.index, asIntOf, run_underlying hT, h0, h4]
theorem ofInt_nat {a : Int} (h0 : 0 ≤ a) (h1 : a ≤ 9223372036854775807) : (BitVec.ofInt 64 a).toNat = a.toNat := by
  rw [BitVec.toNat_ofInt]; omega
theorem bits_nat {op : BinOp} {f : Nat → Nat → Nat} {g : BitVec 64 → BitVec 64 → BitVec 64} (hop : ∀ a b, bits op .i64 a b = IntKind.i64.wrap (g (BitVec.ofInt 64 a) (BitVec.ofInt 64 b)).toNat) (hg : ∀ x y, (g x y).toNat = f x.toNat y.toNat) {a b : Int}
    (h0 : 0 ≤ a) (h1 : a ≤ 9223372036854775807) (g0 : 0 ≤ b) (g1 : b ≤ 9223372036854775807) (hr : f a.toNat b.toNat ≤ 9223372036854775807) : bits op .i64 a b = (f a.toNat b.toNat : Nat) := by
  rw [hop, hg, ofInt_nat h0 h1, ofInt_nat g0 g1]
  exact wrap_in ⟨by omega, by omega⟩
theorem bits_and {a b : Int} (h0 : 0 ≤ a) (h1 : a ≤ 9223372036854775807) (g0 : 0 ≤ b) (g1 : b ≤ 9223372036854775807) : bits .and .i64 a b = (a.toNat &&& b.toNat : Nat) :=
  bits_nat (g := (· &&& ·)) (f := (· &&& ·)) (fun _ _ => rfl) (fun _ _ => BitVec.toNat_and _ _) h0 h1 g0 g1 (by have : a.toNat &&& b.toNat ≤ a.toNat := Nat.and_le_left; omega)
theorem and_mask {a b : Int} (m : Nat) (hm : m ≤ 62) (hb : b = 2 ^ m - 1) (h0 : 0 ≤ a) (h1 : a ≤ 9223372036854775807) : bits .and .i64 a b = a % 2 ^ m := by
  have hp : (2 : Int) ^ m ≤ 2 ^ 62 := by
    have : (2 : Nat) ^ m ≤ 2 ^ 62 := Nat.pow_le_pow_right (by omega) hm
    exact_mod_cast this
  have hp0 : (0 : Int) < 2 ^ m := Int.pow_pos (by omega)
  rw [bits_and h0 h1 (by omega) (by omega)]
  have hbn : b.toNat = 2 ^ m - 1 := by
    have h2 : ((2 : Int) ^ m) = ((2 ^ m : Nat) : Int) := by simp
    rw [hb, h2]; omega
  rw [hbn, Nat.and_two_pow_sub_one_eq_mod]
  have h2 : ((2 : Int) ^ m) = ((2 ^ m : Nat) : Int) := by simp
  rw [h2, Int.natCast_emod, Int.toNat_of_nonneg h0]
theorem x_andm (m : Nat) (hx : opd n E x = .int .i64 a) (hy : opd n E y = .int .i64 b) (hm : m ≤ 62) (hb : b = 2 ^ m - 1) (h0 : 0 ≤ a) (h1 : a ≤ 9223372036854775807) : X0 P n E (.binOp .and T x y T') ty (.int .i64 (a % 2 ^ m)) := by
  have h := x_bits (P := P) (T := T) (T' := T') (ty := ty) (op := .and) (by simp) hx hy; rwa [and_mask m hm hb h0 h1] at h
theorem x_and1 (hx : opd n E x = .int .i64 a) (hy : opd n E y = .int .i64 1) (h0 : 0 ≤ a) (h1 : a ≤ 9223372036854775807) : X0 P n E (.binOp .and T x y T') ty (.int .i64 (a % 2)) := by
  have h := x_andm (P := P) (T := T) (T' := T') (ty := ty) 1 hx hy (by omega) (by omega) h0 h1; simpa using h
/-- shifts by a literal, written as products and quotients -/
theorem x_shlc {k' : IntKind} (c p : Int) (hx : opd n E x = .int .i64 a) (hy : opd n E y = .int k' c) (hc : 0 ≤ c ∧ c < 64) (hp : 2 ^ c.toNat = p) (h : -9223372036854775808 ≤ a * p ∧ a * p ≤ 9223372036854775807) : X0 P n E (.binOp .shl T x y T') ty (.int .i64 (a * p)) := by
  subst hp
  exact x_shl (P := P) (T := T) (T' := T') (ty := ty) hx hy hc h
theorem x_shrc {k' : IntKind} (c p : Int) (hx : opd n E x = .int k a) (hy : opd n E y = .int k' c) (hc : 0 ≤ c ∧ c ≤ k.bits) (hp : 2 ^ c.toNat = p) : X0 P n E (.binOp .shr T x y T') ty (.int k (a / p)) := by
  subst hp
  exact x_shr (P := P) (T := T) (T' := T') (ty := ty) hx hy hc
theorem x_convi (hs : (P.underlying T).isSome = true) (hd : P.underlying T' = some (.int .i64)) (hx : opd n E x = .int k a) (h : -9223372036854775808 ≤ a ∧ a ≤ 9223372036854775807) : X0 P n E (.convert T T' x) ty (.int .i64 a) :=
  x_conv hs hd hx (wrap_in h)
theorem x_convb {c : UInt8} (hs : (P.underlying T).isSome = true) (hd : P.underlying T' = some (.int .i64)) (hx : opd n E x = .int .u8 (c.toNat : Int)) : X0 P n E (.convert T T' x) ty (.int .i64 (c.toNat : Int)) :=
  x_convi hs hd hx (by have := c.toNat_lt; omega)
end ops
end Go.Sx
