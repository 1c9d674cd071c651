/- Plain numbers and lists, with no program in sight. -/
import Derived.Test.YtdnckakaoageoaaVPlW
/- Plain numbers: headers read are right; headers' bits. -/
namespace Go.Pl
end Go.Pl

/- Plain numbers: bits put, texts ended. -/
namespace Go.Pl
theorem numl_zeros (k : Nat) : numl (List.replicate k 0) = 0 := by
  induction k with
  | zero => rfl
  | succ k ih => simp [List.replicate_succ, numl, ih]
theorem pad8_one (x : List Int) : pad8 (x ++ [1]) = x ++ ([1] ++ List.replicate ((8 - (x.length + 1) % 8) % 8) 0) := by
  unfold pad8; rw [List.length_append, List.append_assoc]; rfl
theorem stopped_bits {x : List Int} (h : isBits x) : isBits (pad8 (x ++ [1])) := pad8_bits.2 (isBits_app.2 ⟨h, fun y hy => by simp at hy; omega⟩)
theorem stopped_len {x : List Int} (h : isBits x) : 8 * ((stopped x).size : Int) = x.length + 1 + ((8 - (x.length + 1) % 8) % 8 : Nat) := by
  rw [stopped_yes h, packs_size, pad8_one]; simp only [List.length_append, List.length_cons, List.length_nil, List.length_replicate]; omega
theorem stopped_tail {x : List Int} (h : isBits x) (j : Nat) (hj : j ≤ x.length) : bitsOf (stopped x) (j : Int) (x.length - j + 1 + (8 - (x.length + 1) % 8) % 8) = numl (x.drop j) * 2 ^ (1 + (8 - (x.length + 1) % 8) % 8) + 2 ^ ((8 - (x.length + 1) % 8) % 8) := by
  rw [stopped_yes h, bitsOf_packs (stopped_bits h) j _ (by rw [pad8_one]; simp only [List.length_append, List.length_cons, List.length_nil, List.length_replicate]; omega), pad8_one, List.drop_append_of_le_length hj, List.take_of_length_le (by simp only [List.length_append, List.length_drop, List.length_cons, List.length_nil, List.length_replicate]; omega), numl_app, numl_app, numl_zeros]
  simp [numl, Nat.add_comm 1]
theorem stop_end {x : List Int} (h : isBits x) : stopOf (stopped x) x.length = 0 := by
  have h1 := stopped_len h
  have h2 : remOf (stopped x) x.length = 8 * ((stopped x).size : Int) - x.length := remOf_in (by omega)
  have h3 := stopped_tail h x.length (Nat.le_refl _)
  rw [List.drop_length] at h3
  have e1 : (remOf (stopped x) x.length).toNat = x.length - x.length + 1 + (8 - (x.length + 1) % 8) % 8 := by omega
  have e2 : (remOf (stopped x) x.length - 1).toNat = (8 - (x.length + 1) % 8) % 8 := by omega
  unfold stopOf
  rw [if_neg (by omega), if_pos ⟨by omega, by rw [e1, e2, h3]; simp [numl]⟩]
theorem stop_back {x : List Int} (h : isBits x) (h0 : 0 < x.length) : stopOf (stopped x) ((x.length : Int) - 1) ≠ 0 ∨ x.getD (x.length - 1) 0 = 1 := by
  by_cases hv : x.getD (x.length - 1) 0 = 1
  · exact .inr hv
  · left
    have hv0 : x.getD (x.length - 1) 0 = 0 := (isBits_get h _).resolve_right hv
    have h1 := stopped_len h
    have h2 : remOf (stopped x) ((x.length : Int) - 1) = 8 * ((stopped x).size : Int) - (x.length - 1) := remOf_in (by omega)
    have h3 := stopped_tail h (x.length - 1) (by omega)
    have hd : x.drop (x.length - 1) = [x.getD (x.length - 1) 0] := by
      rw [List.drop_eq_getElem_cons (by omega), show x.length - 1 + 1 = x.length by omega, List.drop_length]
      rw [List.getD_eq_getElem?_getD, List.getElem?_eq_getElem (by omega)]; rfl
    rw [hd, hv0] at h3
    have e0 : ((x.length - 1 : Nat) : Int) = (x.length : Int) - 1 := by omega
    rw [e0] at h3
    have e1 : (remOf (stopped x) ((x.length : Int) - 1)).toNat = x.length - (x.length - 1) + 1 + (8 - (x.length + 1) % 8) % 8 := by omega
    have e2 : (remOf (stopped x) ((x.length : Int) - 1) - 1).toNat = 1 + (8 - (x.length + 1) % 8) % 8 := by omega
    unfold stopOf
    rw [if_neg (by omega), if_neg]
    · decide
    · rintro ⟨_, h4⟩
      rw [e1, e2, h3, Int.pow_add] at h4
      have hp := two_pow_pos ((8 - (x.length + 1) % 8) % 8)
      simp [numl] at h4
      omega
/-- bits put -/
def putOk (b : List Int) (n w : Int) : Prop := (0 ≤ w ∧ w ≤ 32) ∧ 0 ≤ n ∧ n / 2 ^ w.toNat = 0 ∧ (b.length : Int) + w ≤ 200000
instance (b : List Int) (n w : Int) : Decidable (putOk b n w) := by unfold putOk; infer_instance
def putB (b : List Int) (n w : Int) : List Int := if putOk b n w then b ++ bitsIn n w else b
theorem putB_len (b : List Int) (n w : Int) : (putB b n w).length ≤ b.length + 48 := by
  unfold putB; split
  · have := (bitsIn_len n w).1; rw [List.length_append]; omega
  · omega
theorem put_read {b : List Int} {n w : Int} (h : putOk b n w) (hb : isBits (putB b n w)) : rbOk (stopped (putB b n w)) b.length w ∧ rbV (stopped (putB b n w)) b.length w = n := by
  have hp : putB b n w = b ++ bitsIn n w := if_pos h
  obtain ⟨hw, hn, hz, hl⟩ := h
  have e : bitsIn n w = bitsl n w.toNat := by unfold bitsIn; rw [if_pos ⟨by omega, hn, hz⟩]
  have hbl : (bitsIn n w).length = w.toNat := by rw [e, bitsl_length]
  have h1 := stopped_len hb
  have hxl : (putB b n w).length = b.length + w.toNat := by rw [hp, List.length_append, hbl]
  have hok : rbOk (stopped (putB b n w)) b.length w := ⟨by omega, hw, by rw [remOf_in (by omega)]; omega⟩
  refine ⟨hok, ?_⟩
  unfold rbV; rw [if_pos hok, stopped_yes hb, bitsOf_packs (stopped_bits hb) _ _ (by rw [pad8_one]; simp only [List.length_append, List.length_cons, List.length_nil, List.length_replicate]; omega), pad8_one, hp, List.append_assoc, List.drop_left, List.take_append_of_le_length (by omega), List.take_of_length_le (by omega), e, numl_bitsl]
  have hpw := two_pow_pos w.toNat
  exact Int.emod_eq_of_lt hn (by
    have h5 := Int.emod_lt_of_pos n (b := 2 ^ w.toNat) (by omega)
    have h6 := Int.mul_ediv_add_emod n (2 ^ w.toNat)
    rw [hz] at h6; omega)
theorem stopped_ne {x : List Int} (h : stopped x ≠ ⟨#[]⟩) : isBits x := Classical.byContradiction fun h2 => h (stopped_no h2)
end Go.Pl
