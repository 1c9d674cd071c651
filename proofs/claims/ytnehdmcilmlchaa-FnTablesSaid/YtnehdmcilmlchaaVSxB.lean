/- The cursor of a draw: a block of one's own, over bytes that nobody turns. -/
import Derived.Test.YtnehdmcilmlchaaVSxA
import Derived.Laws.IdiomStrings
namespace Go.Sx
open Go.RowKit
theorem Sl.kp {w w' : World} {b : Nat} {p : Option Addr} {n c sz : Nat} {cells : List Value} (h : Sl w p n c sz cells) (k : Exm [b] w w') (hb : 0 < n → Ap p b) : Sl w' p n c sz cells := by
  rcases Nat.eq_zero_or_pos n with h0 | h0
  · subst h0
    have hl : cells = [] := List.eq_nil_of_length_eq_zero (by have := h.len; omega)
    subst hl
    exact ⟨h.len, h.cap, h.mx, h.nil, fun a _ j v hv => by simp at hv⟩
  · exact h.ne k (hb h0)
/-- a slice reads the same after a step that turns only blocks from B on, if its own are below -/
theorem Sl.below {w w' : World} {M : List Nat} {B : Nat} {p : Option Addr} {n c sz : Nat} {cells : List Value} (h : Sl w p n c sz cells) (k : Exm M w w') (hM : Fr B M) (hb : 0 < n → ∀ a, p = some a → a.block < B) : Sl w' p n c sz cells := by
  rcases Nat.eq_zero_or_pos n with h0 | h0
  · subst h0
    have hl : cells = [] := List.eq_nil_of_length_eq_zero (by have := h.len; omega)
    subst hl
    exact ⟨h.len, h.cap, h.mx, h.nil, fun a _ j v hv => by simp at hv⟩
  · exact h.exm k fun b e a ha he => by have := hM b e; have := hb h0 a ha; omega
/-- the block of a slice with elements lies below B -/
def Bl (p : Option Addr) (n B : Nat) : Prop := 0 < n → ∀ a, p = some a → a.block < B
def Cu (w : World) (b B T : Nat) : Prop := ∃ p c xs i hh, Bx w b [.slice p (xs : List Int).length c, .int .i64 i, .int .i64 hh] T ∧ Sl w p xs.length c 1 (bc xs) ∧ (∀ x ∈ xs, 0 ≤ x ∧ x ≤ 255) ∧ Bl p xs.length B ∧ B ≤ b ∧ (0 ≤ i ∧ i ≤ xs.length) ∧ xs.length ≤ 1048576
section
variable {w w' : World} {b b' B T : Nat}
theorem Cu.ext (h : Cu w b B T) (k : Ext w w') : Cu w' b B T := by
  obtain ⟨p, c, xs, i, hh, h1, h2, h3⟩ := h
  exact ⟨p, c, xs, i, hh, h1.ext k, h2.ext k, h3⟩
theorem Cu.exm {M : List Nat} (h : Cu w b B T) (k : Exm M w w') (hM : b ∉ M) (f : Fr B M) : Cu w' b B T := by
  obtain ⟨p, c, xs, i, hh, h1, h2, h3, h4, h5⟩ := h
  exact ⟨p, c, xs, i, hh, h1.exm k hM, h2.below k f h4, h3, h4, h5⟩
theorem Cu.ne (h : Cu w b B T) (k : Exm [b'] w w') (hb : b ≠ b' ∧ B ≤ b') : Cu w' b B T := h.exm k (by simpa using hb.1) (Fr.one hb.2)
theorem Cu.lt (h : Cu w b B T) : B ≤ b ∧ b < w.heap.size := by
  obtain ⟨p, c, xs, i, hh, h1, h2, h3, h4, h5, h6, h7⟩ := h
  exact ⟨h5, (Array.getElem?_eq_some_iff.1 h1).1⟩
end
/-- bytes as a text -/
def strOf (xs : List Int) : ByteArray := ⟨(xs.map fun x => UInt8.ofNat x.toNat).toArray⟩
theorem strOf_size (xs : List Int) : (strOf xs).size = xs.length := by simp [strOf, ByteArray.size]
theorem wrap_u8 (a : Int) : IntKind.u8.wrap a = a % 256 := by simp [IntKind.wrap, IntKind.signed, IntKind.bits]
section
variable {P : Program} {ops : Array Oper} {Q : Exit → Act → World → Prop} {rest : List Oper} {n d : Nat} {E : Env} {op : Op} {ty T T' e : TypeId} {pos : String} {after : Array Edge} {w : World} {x y : Operand} {p : Option Addr} {m c bytes : Nat} {xs : List Int}
theorem x_tostr (hs : P.underlying T = some (.slice e)) (he : P.underlying e = some (.int .u8)) (hd : P.underlying T' = some .string) (hx : opd n E x = .slice p m c) (hS : Sl w p m c 1 (bc xs)) (hr : ∀ x ∈ xs, 0 ≤ x ∧ x ≤ 255) : X P n E (.convert T T' x) ty w (.string (strOf xs)) w := by
  have hm : m = xs.length := by have := hS.len; rw [bc_length] at this; omega
  intro dst pos after g
  have key : (convert T T' (.slice p m c)).run P w = .ok (.string (strOf xs)) w := by
    cases p with
    | none =>
      obtain ⟨rfl, rfl⟩ := hS.nil rfl
      have : xs = [] := List.eq_nil_of_length_eq_zero hm.symm
      subst this
      rw [run_convert_bytes_string w T T' e none 0 0 hs he hd]; rfl
    | some a =>
      have h := run_convert_bytes_back (P := P) w T T' e a c (xs.map fun x => UInt8.ofNat x.toNat) hs he hd (fun j hj => by
        have hj' : j < xs.length := by simpa using hj
        rw [hS.cell a rfl j (.int .u8 xs[j]) (by simp [bc, hj'])]
        have h2 := hr xs[j] (List.getElem_mem hj')
        have h3 : ((UInt8.ofNat xs[j].toNat).toNat : Int) = xs[j] := by
          rw [UInt8.toNat_ofNat']; omega
        simp; omega)
      rw [List.length_map] at h
      rw [hm]; exact h
  simp [execOp, eval_mk, hx, key]
def numberedb : Nat → List Int → List (Nat × Value)
  | _, [] => []
  | i, x :: r => (i, .int .u8 x) :: numberedb (i + 1) r
theorem fill_numb : ∀ (xs : List Int) (pre zs : List Value), zs.length = xs.length → Instr.fill (fun i => some (i * 1, 1)) (pre ++ zs).toArray (numberedb pre.length xs) = some (pre ++ bc xs).toArray
  | [], pre, zs, h => by
    have : zs = [] := List.eq_nil_of_length_eq_zero h
    subst this; simp [numberedb, Instr.fill, bc]
  | x :: r, pre, [], h => by simp at h
  | x :: r, pre, z :: zs, h => by
    have ih := fill_numb r (pre ++ [(Value.int .u8 x)]) zs (by simpa using h)
    unfold numberedb Instr.fill
    have e1 : (Value.int .u8 x).cells = #[.int .u8 x] := rfl
    simp only [e1, Nat.mul_one]
    rw [if_neg (by simp)]
    have e3 : (#[(.int .u8 x : Value)].zipIdx.foldl (fun cs (c, j) => cs.setIfInBounds (pre.length + j) c) (pre ++ z :: zs).toArray) = (pre ++ [(Value.int .u8 x)] ++ zs).toArray := by
      simp
    rw [e3]
    simpa [bc] using ih
theorem s_bsb {l : Nat} {parts : List (Nat × Operand)} (hT : SliceOf P T e 1 bytes) (hz : ZeroV P e [.int .u8 0]) (hp : Pts n E parts (numberedb 0 xs)) (hl : Nat.ble l 4096 = true) (hn : Nat.ble 1 l = true) (hxs : xs.length = l)
    (k : ∀ p F w', Ext w w' → Own w' p l l e 1 (bc xs) F → Fr w.heap.size F → Lt F w'.heap.size → WL P ops Q rest (mk n (upd E d (.slice p l l))) w') :
    WL P ops Q (⟨some d, .buildSlice T l parts.toArray, ty, pos, after, none⟩ :: rest) (mk n E) w := by
  unfold Pts at hp
  have := Nat.le_of_ble_eq_true hl
  have hf := fill_numb xs [] ((Array.range (l * 1)).map (#[(.int .u8 0 : Value)][· % 1]!)).toList (by simp [hxs])
  simp only [List.nil_append, List.length_nil, Array.toArray_toList] at hf
  exact s_bs hT hz (by omega) (by rw [hp]; exact hf) (by simp [bc, hxs]) (by simpa using hn) k
theorem Own.nb {w : World} {p : Option Addr} {n c : Nat} {e : TypeId} {xs : List Int} {F : List Nat} (h : Own w p n c e 1 (bc xs) F) : n = xs.length := by
  have := h.len; rw [bc_length] at this; omega
theorem made_bytes (l : Nat) : (madeCells [.int .u8 0].toArray (l * 1)).toList = bc (List.replicate l 0) := by
  unfold madeCells bc
  apply List.ext_getElem
  · simp
  · intro i h1 h2
    simp [Nat.mod_one]
theorem bc_one {xs : List Int} : ∀ u ∈ bc xs, u.oneCell' = true := by
  intro u hu
  simp only [bc, List.mem_map] at hu
  obtain ⟨a, _, rfl⟩ := hu
  rfl
theorem bc_append (xs ys : List Int) : bc (xs ++ ys) = bc xs ++ bc ys := by simp [bc]
theorem bc_set (xs : List Int) (j : Nat) (a : Int) : (bc xs).set j (.int .u8 a) = bc (xs.set j a) := by simp [bc]
variable {F : List Nat} {B : Nat} {a : Option Addr} {m' c' : Nat} {ys : List Int}
/-- make([]byte, a) -/
theorem s_makeb {kl kc : IntKind} {l : Int} (hT : SliceOf P T e 1 bytes) (hz : ZeroV P e [.int .u8 0]) (hl : opd n E x = .int kl l) (hc : opd n E y = .int kc l) (h0 : 0 ≤ l) (hb : l * bytes ≤ 140737488355328) (hm : l ≤ 1099511627776)
    (k : ∀ p F w', Ext w w' → Own w' p l.toNat l.toNat e 1 (bc (List.replicate l.toNat 0)) F → Fr w.heap.size F → Lt F w'.heap.size → WL P ops Q rest (mk n (upd E d (.slice p l.toNat l.toNat))) w') :
    WL P ops Q (⟨some d, .makeSlice T x y, ty, pos, after, none⟩ :: rest) (mk n E) w := by
  obtain ⟨j, rfl⟩ : ∃ j : Nat, l = j := ⟨l.toNat, by omega⟩
  have hjb : j * bytes ≤ 140737488355328 := Int.ofNat_le.1 (by rw [Int.natCast_mul]; exact hb)
  refine s_make (l := j) hT hz hl hc (by omega) (by omega) fun p F w' h1 h2 h3 h4 => ?_
  rw [made_bytes] at h2
  exact k p F w' h1 h2 h3 h4
/-- bytes stored -/
theorem s_stob {dst : Option Tmp} {i v : Int} (hd : dst = none) (hT : Sz P T 1) (hx : opd n E x = pt (blk p) (off p + i.toNat * 1)) (hy : opd n E y = .int .u8 v) (hs : Own w p m c e 1 (bc xs) F) (h0 : 0 ≤ i) (h1 : i < xs.length)
    (k : ∀ w', Exm F w w' → w'.heap.size = w.heap.size → Own w' p m c e 1 (bc (xs.set i.toNat v)) F → WL P ops Q rest (mk n E) w') :
    WL P ops Q (⟨dst, .store T x y, ty, pos, after, none⟩ :: rest) (mk n E) w := by
  refine s_sto (j := i.toNat) hd hT hx hy rfl rfl hs (by omega) (by rw [bc_length]; omega) fun w' h1 h2 h3 => ?_
  rw [bc_set] at h3
  exact k w' h1 h2 h3
/-- append(s, ys...) of bytes -/
theorem s_appb (hT : SliceOf P T e 1 bytes) (hz : ZeroV P e [.int .u8 0]) (hx : opd n E x = .slice p m c) (hy : opd n E y = .slice a m' c') (ho : Own w p m c e 1 (bc xs) F) (hs : Sl w a m' c' 1 (bc ys)) (f : Fr B F) (hB : B ≤ w.heap.size)
    (hb : (m + m') * bytes ≤ 140737488355328) (hm : m + m' ≤ 1099511627776)
    (k : ∀ p' c' F' w', Exm F w w' → Own w' p' (xs ++ ys).length c' e 1 (bc (xs ++ ys)) F' → (xs ++ ys).length = m + m' → Grew w F F' → Fr B F' → Lt F' w'.heap.size → WL P ops Q rest (mk n (upd E d (.slice p' (xs ++ ys).length c'))) w') :
    WL P ops Q (⟨some d, .call { callee := .builtin .append, args := [x, y].toArray, argTypes := [T, T].toArray }, ty, pos, after, none⟩ :: rest) (mk n E) w := by
  refine s_app hT ⟨_, hz, rfl⟩ hx hy ho hs bc_one hb (by omega) fun p' c'' F' w' h1 h2 h3 h4 => ?_
  rw [← bc_append] at h2
  have hn := h2.nb
  rw [hn] at h2 ⊢
  exact k p' c'' F' w' h1 h2 hn.symm h3 (h3.fr f hB) h4
/-- bytes joined where they have no bit in common -/
theorem or8 {a b : Int} (m : Nat) (q : Int) (ha : a = q * 2 ^ m) (hb0 : 0 ≤ b) (hb : b < 2 ^ m) (h0 : 0 ≤ a) (h1 : a ≤ 255) (g1 : b ≤ 255) : bits .or .u8 a b = a + b := by
  have e0 : bits .or .u8 a b = IntKind.u8.wrap ((BitVec.ofInt 8 a) ||| (BitVec.ofInt 8 b)).toNat := rfl
  have e1 : bits .or .i64 a b = IntKind.i64.wrap ((BitVec.ofInt 64 a) ||| (BitVec.ofInt 64 b)).toNat := rfl
  have h2 := or_low m q ha hb0 hb h0 (by omega) (by omega)
  rw [e1, BitVec.toNat_or, ofInt_nat h0 (by omega), ofInt_nat hb0 (by omega)] at h2
  have h3 : a.toNat ||| b.toNat < 2 ^ 8 := Nat.or_lt_two_pow (by omega) (by omega)
  rw [wrap_in ⟨by omega, by omega⟩] at h2
  have n1 : (BitVec.ofInt 8 a).toNat = a.toNat := by rw [BitVec.toNat_ofInt]; omega
  have n2 : (BitVec.ofInt 8 b).toNat = b.toNat := by rw [BitVec.toNat_ofInt]; omega
  rw [e0, BitVec.toNat_or, n1, n2, wrap_u8]
  omega
theorem x_or8 {z : Operand} {a b : Int} (m : Nat) (q : Int) (hx : opd n E x = .int .u8 a) (hy : opd n E z = .int .u8 b) (ha : a = q * 2 ^ m) (hb0 : 0 ≤ b) (hb : b < 2 ^ m) (h0 : 0 ≤ a) (h1 : a ≤ 255) (g1 : b ≤ 255) : X0 P n E (.binOp .or T x z T') ty (.int .u8 (a + b)) := by
  have h := x_bits (P := P) (T := T) (T' := T') (ty := ty) (op := .or) (by simp) hx hy; rwa [or8 m q ha hb0 hb h0 h1 g1] at h
end
end Go.Sx
