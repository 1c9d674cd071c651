/- One lemma for each kind of operation. -/
import Derived.Test.YtepnknffaecbdaaVSx1
namespace Go.Sx
open Go.RowKit

theorem wrap_in {z : Int} (h : -9223372036854775808 ≤ z ∧ z ≤ 9223372036854775807) : IntKind.i64.wrap z = z := IntWalk.i64_in z h

section ops
variable {P : Program} {n : Nat} {E : Env} {ty T T' : TypeId} {x y z : Operand} {v : Value} {a b : Int} {k : IntKind}

theorem x_move (hx : opd n E x = v) : X0 P n E (.move x) ty v := by
  intro w dst pos after g; subst hx; simp [execOp, eval_mk]
theorem x_assign (hx : opd n E x = v) : X0 P n E (.assign x) ty v := by
  intro w dst pos after g; subst hx; simp [execOp, eval_mk]
theorem x_pickt (hc : opd n E z = .bool true) (hx : opd n E x = v) : X0 P n E (.pick z x y) ty v := by
  intro w dst pos after g; subst hx; simp [execOp, eval_mk, hc, asBool]
theorem x_pickf (hc : opd n E z = .bool false) (hx : opd n E y = v) : X0 P n E (.pick z x y) ty v := by
  intro w dst pos after g; subst hx; simp [execOp, eval_mk, hc, asBool]

theorem x_bin {op : BinOp} {u : Value} {v : Value} {u' : Value} (hx : opd n E x = u) (hy : opd n E y = u') (hg : ∀ w, (eqGuard op T x y u u').run P w = .ok () w) (h : ∀ w, (binOp op T u u').run P w = .ok v w) : X0 P n E (.binOp op T x y T') ty v := by
  intro w dst pos after g
  simp [execOp, eval_mk, hx, hy, hg, h]

theorem eqGuard_int (op : BinOp) (k k' : IntKind) (w : World) : (eqGuard op T x y (.int k a) (.int k' b)).run P w = .ok () w := by
  unfold eqGuard; split <;> simp
theorem eqGuard_bool (op : BinOp) (a b : Bool) (w : World) : (eqGuard op T x y (.bool a) (.bool b)).run P w = .ok () w := by
  unfold eqGuard; split <;> simp
theorem eqGuard_string (op : BinOp) (a b : ByteArray) (w : World) : (eqGuard op T x y (.string a) (.string b)).run P w = .ok () w := by
  unfold eqGuard; split <;> simp

theorem x_addk (hx : opd n E x = .int k a) (hy : opd n E y = .int k b) : X0 P n E (.binOp .add T x y T') ty (.int k (k.wrap (a + b))) :=
  x_bin hx hy (eqGuard_int _ _ _) fun w => by simp [binOp, Op.intArith]
theorem x_subk (hx : opd n E x = .int k a) (hy : opd n E y = .int k b) : X0 P n E (.binOp .sub T x y T') ty (.int k (k.wrap (a - b))) :=
  x_bin hx hy (eqGuard_int _ _ _) fun w => by simp [binOp, Op.intArith]
theorem x_mulk (hx : opd n E x = .int k a) (hy : opd n E y = .int k b) : X0 P n E (.binOp .mul T x y T') ty (.int k (k.wrap (a * b))) :=
  x_bin hx hy (eqGuard_int _ _ _) fun w => by simp [binOp, Op.intArith]
theorem x_add (hx : opd n E x = .int .i64 a) (hy : opd n E y = .int .i64 b) (h : -9223372036854775808 ≤ a + b ∧ a + b ≤ 9223372036854775807) : X0 P n E (.binOp .add T x y T') ty (.int .i64 (a + b)) := by
  have := x_addk (P := P) (T := T) (T' := T') (ty := ty) hx hy; rwa [wrap_in h] at this
theorem x_sub (hx : opd n E x = .int .i64 a) (hy : opd n E y = .int .i64 b) (h : -9223372036854775808 ≤ a - b ∧ a - b ≤ 9223372036854775807) : X0 P n E (.binOp .sub T x y T') ty (.int .i64 (a - b)) := by
  have := x_subk (P := P) (T := T) (T' := T') (ty := ty) hx hy; rwa [wrap_in h] at this
theorem x_mul (hx : opd n E x = .int .i64 a) (hy : opd n E y = .int .i64 b) (h : -9223372036854775808 ≤ a * b ∧ a * b ≤ 9223372036854775807) : X0 P n E (.binOp .mul T x y T') ty (.int .i64 (a * b)) := by
  have := x_mulk (P := P) (T := T) (T' := T') (ty := ty) hx hy; rwa [wrap_in h] at this
theorem x_quok (hx : opd n E x = .int k a) (hy : opd n E y = .int k b) (hb : b ≠ 0) : X0 P n E (.binOp .quo T x y T') ty (.int k (k.wrap (a.tdiv b))) :=
  x_bin hx hy (eqGuard_int _ _ _) fun w => by simp [binOp, Op.intDiv, hb]
theorem x_remk (hx : opd n E x = .int k a) (hy : opd n E y = .int k b) (hb : b ≠ 0) : X0 P n E (.binOp .rem T x y T') ty (.int k (a.tmod b)) :=
  x_bin hx hy (eqGuard_int _ _ _) fun w => by simp [binOp, Op.intDiv, hb]
theorem x_quo (hx : opd n E x = .int .i64 a) (hy : opd n E y = .int .i64 b) (ha : 0 ≤ a ∧ a ≤ 9223372036854775807) (hb : 0 < b) : X0 P n E (.binOp .quo T x y T') ty (.int .i64 (a / b)) := by
  have h := x_quok (P := P) (T := T) (T' := T') (ty := ty) hx hy (by omega)
  have h2 : a.tdiv b = a / b := Int.tdiv_eq_ediv_of_nonneg ha.1
  have h3 : 0 ≤ a / b := Int.ediv_nonneg ha.1 (by omega)
  have h4 : a / b ≤ a := Int.ediv_le_self _ ha.1
  rwa [h2, wrap_in ⟨by omega, by omega⟩] at h
theorem x_rem (hx : opd n E x = .int k a) (hy : opd n E y = .int k b) (ha : 0 ≤ a) (hb : 0 < b) : X0 P n E (.binOp .rem T x y T') ty (.int k (a % b)) := by
  have h := x_remk (P := P) (T := T) (T' := T') (ty := ty) hx hy (by omega)
  rwa [Int.tmod_eq_emod_of_nonneg ha] at h
theorem x_shlk {k' : IntKind} (hx : opd n E x = .int k a) (hy : opd n E y = .int k' b) (hb : 0 ≤ b ∧ b < k.bits) : X0 P n E (.binOp .shl T x y T') ty (.int k (k.wrap (a * 2 ^ b.toNat))) :=
  x_bin hx hy (eqGuard_int _ _ _) fun w => by
    have h1 : ¬ b < 0 := by omega
    have h2 : min b.toNat k.bits = b.toNat := by omega
    simp [binOp, Op.shift, h1, h2]
theorem x_shl {k' : IntKind} (hx : opd n E x = .int .i64 a) (hy : opd n E y = .int k' b) (hb : 0 ≤ b ∧ b < 64) (h : -9223372036854775808 ≤ a * 2 ^ b.toNat ∧ a * 2 ^ b.toNat ≤ 9223372036854775807) : X0 P n E (.binOp .shl T x y T') ty (.int .i64 (a * 2 ^ b.toNat)) := by
  have h1 := x_shlk (P := P) (T := T) (T' := T') (ty := ty) hx hy (by simpa [IntKind.bits] using hb); rwa [wrap_in h] at h1
theorem x_shr {k' : IntKind} (hx : opd n E x = .int k a) (hy : opd n E y = .int k' b) (hb : 0 ≤ b ∧ b ≤ k.bits) : X0 P n E (.binOp .shr T x y T') ty (.int k (a / 2 ^ b.toNat)) :=
  x_bin hx hy (eqGuard_int _ _ _) fun w => by
    have h1 : ¬ b < 0 := by omega
    have h2 : min b.toNat k.bits = b.toNat := by omega
    have h3 : a.fdiv (2 ^ b.toNat) = a / 2 ^ b.toNat := Int.fdiv_eq_ediv_of_nonneg _ (Int.pow_nonneg (by omega))
    simp [binOp, Op.shift, h1, h2, h3]
theorem x_bits {op : BinOp} (hop : op = .and ∨ op = .or ∨ op = .xor) (hx : opd n E x = .int k a) (hy : opd n E y = .int k b) : X0 P n E (.binOp op T x y T') ty (.int k (bits op k a b)) :=
  x_bin hx hy (eqGuard_int _ _ _) fun w => by rcases hop with rfl | rfl | rfl <;> simp [binOp, Op.intBits, bits]

theorem x_lss (hx : opd n E x = .int k a) (hy : opd n E y = .int k b) : X0 P n E (.binOp .lss T x y T') ty (.bool (decide (a < b))) :=
  x_bin hx hy (eqGuard_int _ _ _) fun w => by simp [binOp, Op.intCmp]
theorem x_leq (hx : opd n E x = .int k a) (hy : opd n E y = .int k b) : X0 P n E (.binOp .leq T x y T') ty (.bool (decide (a ≤ b))) :=
  x_bin hx hy (eqGuard_int _ _ _) fun w => by simp [binOp, Op.intCmp]
theorem x_gtr (hx : opd n E x = .int k a) (hy : opd n E y = .int k b) : X0 P n E (.binOp .gtr T x y T') ty (.bool (decide (b < a))) :=
  x_bin hx hy (eqGuard_int _ _ _) fun w => by simp [binOp, Op.intCmp]
theorem x_geq (hx : opd n E x = .int k a) (hy : opd n E y = .int k b) : X0 P n E (.binOp .geq T x y T') ty (.bool (decide (b ≤ a))) :=
  x_bin hx hy (eqGuard_int _ _ _) fun w => by simp [binOp, Op.intCmp]
theorem x_eql (hx : opd n E x = .int k a) (hy : opd n E y = .int k b) : X0 P n E (.binOp .eql T x y T') ty (.bool (decide (a = b))) :=
  x_bin hx hy (eqGuard_int _ _ _) fun w => by simp only [binOp, Op.intCmp]; simp; rfl
theorem x_neq (hx : opd n E x = .int k a) (hy : opd n E y = .int k b) : X0 P n E (.binOp .neq T x y T') ty (.bool (decide (a ≠ b))) :=
  x_bin hx hy (eqGuard_int _ _ _) fun w => by simp only [binOp, Op.intCmp]; simp [bne]; rfl

theorem x_neqb {p q : Bool} (hT : P.underlying T = some .bool) (hx : opd n E x = .bool p) (hy : opd n E y = .bool q) : X0 P n E (.binOp .neq T x y T') ty (.bool (decide (p ≠ q))) :=
  x_bin hx hy (eqGuard_bool _ _ _) fun w => by rw [run_neq_bool (h := hT)]; cases p <;> cases q <;> rfl

theorem bytes_beq (s t : ByteArray) : (s.toList == t.toList) = decide (s = t) := by
  rw [Bool.eq_iff_iff]
  simp only [beq_iff_eq, decide_eq_true_eq]
  constructor
  · intro h
    have h2 : s.data.toList = t.data.toList := by simpa [ByteArray.toList_eq] using h
    cases s; cases t; simp at h2; subst h2; rfl
  · intro h; rw [h]
theorem x_eqls {s t : ByteArray} (hx : opd n E x = .string s) (hy : opd n E y = .string t) : X0 P n E (.binOp .eql T x y T') ty (.bool (decide (s = t))) :=
  x_bin hx hy (eqGuard_string _ _ _) fun w => by simp only [binOp, Op.stringOp, bytes_beq]; simp
theorem x_neqs {s t : ByteArray} (hx : opd n E x = .string s) (hy : opd n E y = .string t) : X0 P n E (.binOp .neq T x y T') ty (.bool (decide (s ≠ t))) :=
  x_bin hx hy (eqGuard_string _ _ _) fun w => by simp only [binOp, Op.stringOp, bytes_beq]; simp
theorem x_not {p : Bool} (hx : opd n E x = .bool p) : X0 P n E (.unOp .not T x) ty (.bool (!p)) := by
  intro w dst pos after g; simp [execOp, eval_mk, hx, Op.unary]
theorem x_negk (hx : opd n E x = .int k a) : X0 P n E (.unOp .neg T x) ty (.int k (k.wrap (0 - a))) := by
  intro w dst pos after g; simp [execOp, eval_mk, hx, Op.unary, Op.intArith]
theorem x_neg (hx : opd n E x = .int .i64 a) (h : -9223372036854775808 ≤ -a ∧ -a ≤ 9223372036854775807) : X0 P n E (.unOp .neg T x) ty (.int .i64 (-a)) := by
  have h1 := x_negk (P := P) (T := T) (ty := ty) hx; rwa [Int.zero_sub, wrap_in h] at h1

theorem x_convk {k' : IntKind} (hs : (P.underlying T).isSome = true) (hd : P.underlying T' = some (.int k')) (hx : opd n E x = .int k a) : X0 P n E (.convert T T' x) ty (.int k' (k'.wrap a)) := by
  intro w dst pos after g
  have hk : P.intKind T' = k' := by simp [Program.intKind, hd]
  have h1 := run_convert_int w T T' k a hs (by rw [hk]; exact hd)
  rw [hk] at h1
  simp [execOp, eval_mk, hx, h1]
theorem x_conv {k' : IntKind} (hs : (P.underlying T).isSome = true) (hd : P.underlying T' = some (.int k')) (hx : opd n E x = .int k a) (h : k'.wrap a = a) : X0 P n E (.convert T T' x) ty (.int k' a) := by
  have h1 := x_convk (P := P) (ty := ty) hs hd hx; rwa [h] at h1

theorem x_lensl {e : TypeId} {base : Option Addr} {m c : Nat} (hT : P.underlying T = some (.slice e)) (hx : opd n E x = .slice base m c) : X0 P n E (.call { callee := .builtin .len, args := [x].toArray, argTypes := [T].toArray }) ty (.int .i64 m) := by
  intro w dst pos after g
  simp [execOp, eval_mk, hx, resolve, invoke, builtin, Builtin.len_, run_underlying hT, goInt]
theorem x_min {ts : Array TypeId} (hx : opd n E x = .int k a) (hy : opd n E y = .int k b) : X0 P n E (.call { callee := .builtin .min, args := [x, y].toArray, argTypes := ts }) ty (.int k (min a b)) := by
  intro w dst pos after g
  have h : (if b < a then b else a) = min a b := by split <;> omega
  simp [execOp, eval_mk, hx, hy, resolve, invoke, builtin, run_min_int2, h]
theorem x_max {ts : Array TypeId} (hx : opd n E x = .int k a) (hy : opd n E y = .int k b) : X0 P n E (.call { callee := .builtin .max, args := [x, y].toArray, argTypes := ts }) ty (.int k (max a b)) := by
  intro w dst pos after g
  have h : (if a < b then b else a) = max a b := by split <;> omega
  simp [execOp, eval_mk, hx, hy, resolve, invoke, builtin, run_max_int2, h]
theorem x_extract {vs : List Value} {i : Nat} (hx : opd n E x = .tuple vs.toArray) (hv : vs[i]? = some v) : X0 P n E (.extract x i) ty v := by
  intro w dst pos after g
  simp [execOp, eval_mk, hx, Instr.extract, hv]
theorem x_shrc {k' : IntKind} (c p : Int) (hx : opd n E x = .int k a) (hy : opd n E y = .int k' c) (hc : 0 ≤ c ∧ c ≤ k.bits) (hp : 2 ^ c.toNat = p) : X0 P n E (.binOp .shr T x y T') ty (.int k (a / p)) := by
  subst hp
  exact x_shr (P := P) (T := T) (T' := T') (ty := ty) hx hy hc
end ops
end Go.Sx
