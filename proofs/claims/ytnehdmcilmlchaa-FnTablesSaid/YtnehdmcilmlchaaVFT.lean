/- What each function of this part returns, for every argument that meets its premises. -/
import Derived.Test.YtnehdmcilmlchaaProg
import Derived.Test.YtnehdmcilmlchaaVSxF
import Derived.Test.YtnehdmcilmlchaaVPlY
import Derived.Test.YtnehdmcilmlchaaVF2
import Derived.Test.YtnehdmcilmlchaaVF3
import Derived.Test.YtnehdmcilmlchaaVF5
import Derived.Test.YtnehdmcilmlchaaVF6
import Derived.Test.YtnehdmcilmlchaaVF9
import Derived.Test.YtnehdmcilmlchaaVFA
import Derived.Test.YtnehdmcilmlchaaVFC
import Derived.Test.YtnehdmcilmlchaaVFJ
import Derived.Test.YtnehdmcilmlchaaVFN
import Derived.Test.YtnehdmcilmlchaaVFS
namespace Go.Proofs.Ytnehdmcilmlchaa
open Go.Sx Go.Pl Go.RowKit
theorem ag25FT : Ag Try.prog 25 4 := ⟨⟨_, Try.underlying25⟩, by kernel_rfl⟩
theorem ag35FT : Ag Try.prog 35 2 := ⟨⟨_, Try.underlying35⟩, by kernel_rfl⟩
theorem bd128FT : Built Try.prog 128 [.int .i64 0, .int .i64 0] #[(0, 1), (1, 1)] := ⟨_, Try.underlying128, by unfold ZeroV; kernel_rfl, fun w => by kernel_rfl⟩
theorem bd35FT : Built Try.prog 35 [.string .empty, .int .i64 0] #[(0, 1), (1, 1)] := ⟨_, Try.underlying35, by unfold ZeroV; kernel_rfl, fun w => by kernel_rfl⟩
theorem cl103FT : Callable Try.prog 103 := callable Try.func103 (by kernel_rfl) rfl
theorem cl147FT : Callable Try.prog 147 := callable Try.func147 (by kernel_rfl) rfl
theorem cl170FT : Callable Try.prog 170 := callable Try.func170 (by kernel_rfl) rfl
theorem cl171FT : Callable Try.prog 171 := callable Try.func171 (by kernel_rfl) rfl
theorem cl172FT : Callable Try.prog 172 := callable Try.func172 (by kernel_rfl) rfl
theorem cl173FT : Callable Try.prog 173 := callable Try.func173 (by kernel_rfl) rfl
theorem cl78FT : Callable Try.prog 78 := callable Try.func78 (by kernel_rfl) rfl
theorem cl79FT : Callable Try.prog 79 := callable Try.func79 (by kernel_rfl) rfl
theorem cl80FT : Callable Try.prog 80 := callable Try.func80 (by kernel_rfl) rfl
theorem cl81FT : Callable Try.prog 81 := callable Try.func81 (by kernel_rfl) rfl
theorem cl82FT : Callable Try.prog 82 := callable Try.func82 (by kernel_rfl) rfl
theorem cl83FT : Callable Try.prog 83 := callable Try.func83 (by kernel_rfl) rfl
theorem cl84FT : Callable Try.prog 84 := callable Try.func84 (by kernel_rfl) rfl
theorem cl85FT : Callable Try.prog 85 := callable Try.func85 (by kernel_rfl) rfl
theorem cl94FT : Callable Try.prog 94 := callable Try.func94 (by kernel_rfl) rfl
theorem fa35_0FT : FieldAt Try.prog 35 0 0 := ⟨_, _, Try.underlying35, rfl, rfl, ⟨0, by unfold Sz; kernel_rfl⟩⟩
theorem fa35_1FT : FieldAt Try.prog 35 1 1 := ⟨_, _, Try.underlying35, rfl, rfl, ⟨0, by unfold Sz; kernel_rfl⟩⟩
theorem sc3FT : Sc Try.prog 3 := ⟨(.int .i64), by kernel_rfl, trivial⟩
theorem sc9FT : Sc Try.prog 9 := ⟨.string, by kernel_rfl, trivial⟩
theorem so26FT : SliceOf Try.prog 26 128 2 16 := ⟨by kernel_rfl, by kernel_rfl⟩
theorem so40FT : SliceOf Try.prog 40 3 1 8 := ⟨by kernel_rfl, by kernel_rfl⟩
theorem sz128FT : Sz Try.prog 128 2 := by unfold Sz; kernel_rfl
theorem sz25FT : Sz Try.prog 25 4 := by unfold Sz; kernel_rfl
theorem sz3FT : Sz Try.prog 3 1 := by unfold Sz; kernel_rfl
theorem sz35FT : Sz Try.prog 35 2 := by unfold Sz; kernel_rfl
theorem un26FT : Try.prog.underlying 26 = some (.slice 128) := by kernel_rfl
theorem un40FT : Try.prog.underlying 40 = some (.slice 3) := by kernel_rfl
theorem zr25FT : ZeroV Try.prog 25 [.string .empty, .int .i64 0, .int .i64 0, .int .i64 0] := by unfold ZeroV; kernel_rfl
theorem zr3FT : ZeroV Try.prog 3 [.int .i64 0] := by unfold ZeroV; kernel_rfl
theorem zr35FT : ZeroV Try.prog 35 [.string .empty, .int .i64 0] := by unfold ZeroV; kernel_rfl
/-- spec.l6Reader -/
theorem s_l6Reader (b B : Nat) (w : World) (hcu : Cu w b B 192) :
    Calls Try.prog 79 [pt b 0].toArray w (RetM [b] w fun v w' => (∃ (s : ByteArray) (a : Int), v = .agg [.string s, .int .i64 a].toArray ∧ s.size ≤ 1048576) ∧ Cu w' b B 192) := by
  have hcb := hcu.lt
  have L : Exm [b] w w := Exm.rfl'
  refine enter (n := 46) Try.func79 rfl rfl rfl ?_
  refine wp_seq ?_
  refine c_reg ?_
  refine s_alloc zr35FT ?_
  intro b1 w2 lob1 hib1 l3 B1
  have z_l3 := l3.size
  have L := L.tr l3.up
  have hcu := hcu.ext l3
  refine c_end ?_
  refine n_then ?_
  refine wp_seq ?_
  refine c_reg ?_
  refine s0 (x_move (v := .pointer _) rfl) ?_
  refine spm (zcall cl170FT rfl) (s_l2Bits b _ _ _ hcu (by omega)) ?_
  rintro v9 w4 l5 ⟨⟨p9, n9, xs9, c9, F9, rfl, o9, f9, rfl, hx9⟩, hcu⟩
  have z_l5 := l5.size
  have L := L.within l5 (by simp)
  have B1 := B1.ne l5 (by omega)
  have g9 := o9.lt
  refine s0 (x_assign (v := .slice _ _ _) rfl) ?_
  refine c_end ?_
  refine n_then ?_
  refine wp_seq ?_
  refine wp_seq ?_
  refine c_reg ?_
  refine s0 (x_assign (v := .int _ _) rfl) ?_
  refine c_end ?_
  refine n_then ?_
  refine wp_block ?_
  refine c_loop (γ := List Int × Nat) (fun g => xs9.length - g.2) (fun (g : List Int × Nat) E wl => ∃ E0, E = upd (upd (upd (upd E0 0 (pt b 0)) 2 (pt b1 0)) 3 (.slice p9 xs9.length c9)) 4 (.int .i64 (g.2 : Int)) ∧ (Exm [b] w wl) ∧ (w4.heap.size ≤ wl.heap.size) ∧ (Cu wl b B 192) ∧ (Bx wl b1 [.string .empty, .int .i64 0] 35) ∧ (Own wl p9 xs9.length c9 3 1 (ic g.1) F9) ∧ ((g.2 : Int) ≤ xs9.length ∧ g.1.length = xs9.length)) (xs9, 0) ⟨_, upd_self4 rfl rfl rfl rfl, L, (by omega), hcu, B1, o9, (⟨by show ((0 : Nat) : Int) ≤ _; omega, rfl⟩)⟩ ?_
  rintro g E wl6 ⟨E0, rfl, L, Lz, hcu, B1, o9, hg⟩
  have Lz0 := L.size
  refine wp_seq ?_
  refine wp_seq ?_
  refine c_reg ?_
  refine s0 (x_move (v := .int _ _) rfl) ?_
  refine s0 (x_move (v := .slice _ _ _) rfl) ?_
  refine s0 (x_lensl un40FT rfl) ?_
  refine sb (x_lss rfl rfl) (fun h13 => ?_) (fun h13 => ?_)
  · refine c_end ?_
    refine n_then ?_
    refine c_true rfl ?_
    refine c_skipn ?_
    refine n_then ?_
    refine wp_seq ?_
    refine wp_block ?_
    refine c_reg ?_
    refine s0 (x_move (v := .slice _ _ _) rfl) ?_
    refine s0 (x_move (v := .int _ _) rfl) ?_
    refine s0 (x_move (v := .slice _ _ _) rfl) ?_
    refine s0 (x_move (v := .int _ _) rfl) ?_
    refine s0 (x_idx so40FT rfl rfl o9.sl (by decide) (by omega) (by omega)) ?_
    refine st (x_ldi sc3FT rfl o9.sl (by omega) (by omega)) ?_
    refine s0 (x_bits (by simp) rfl rfl) ?_
    refine s0 (x_idx so40FT rfl rfl o9.sl (by decide) (by omega) (by omega)) ?_
    refine s_stoi rfl sz3FT rfl rfl o9 (by omega) (by omega) ?_
    intro w7 l8 el8 o9
    have z_l8 := l8.size
    have L := L.freshL l8 f9 (by omega)
    have hcu := hcu.exm l8 (by first | assumption | exact nin_of f9 g9 (by omega)) (f9.mono (by omega))
    have B1 := B1.exm l8 (by first | assumption | exact nin_of f9 g9 (by omega))
    have hnl8 := o9.n1
    refine c_end ?_
    refine n_block ?_
    refine n_then ?_
    refine c_reg ?_
    refine s0 (x_move (v := .int _ _) rfl) ?_
    refine s0 (x_add rfl rfl (by omega)) ?_
    refine s0 (x_assign (v := .int _ _) rfl) ?_
    refine c_end ?_
    exact c_round (g' := (g.1.set (g.2 : Int).toNat _, g.2 + 1)) (by show xs9.length - (g.2 + 1) < xs9.length - g.2; omega) ⟨_, upd_self4 rfl rfl rfl (vint (by show _ = ((g.2 + 1 : Nat) : Int); omega)), L, (by omega), hcu, B1, o9, (⟨by show ((g.2 + 1 : Nat) : Int) ≤ _; omega, by show (g.1.set _ _).length = _; rw [List.length_set]; omega⟩)⟩
  · refine c_end ?_
    refine n_then ?_
    refine c_false rfl ?_
    refine wp_exit (e_then (e_then (e_here ?_)))
    refine n_then ?_
    refine wp_seq ?_
    refine c_reg ?_
    refine s0 (x_move (v := .slice _ _ _) rfl) ?_
    refine s0 (x_lensl un40FT rfl) ?_
    refine s0 (x_assign (v := .int _ _) rfl) ?_
    refine c_end ?_
    refine n_then ?_
    refine wp_seq ?_
    refine wp_seq ?_
    refine c_reg ?_
    refine s0 (x_move (v := .pointer _) rfl) ?_
    refine spm (zcall cl171FT rfl) (s_below b _ _ _ hcu) ?_
    rintro v27 w9 l10 ⟨⟨x27, rfl, hx27⟩, hcu⟩
    have z_l10 := l10.size
    have L := L.within l10 (by simp)
    have B1 := B1.ne l10 (by omega)
    have o9 := o9.ne l10 (by first | assumption | exact nin_of f9 g9 (by omega))
    refine s0 (x_assign (v := .int _ _) rfl) ?_
    refine c_end ?_
    refine n_then ?_
    refine wp_block ?_
    refine c_loop (γ := List Int × Int) (fun h => h.2.toNat) (fun (h : List Int × Int) E wl => ∃ E0 pz3 cz3 Fz3, E = upd (upd (upd (upd (upd E0 0 (pt b 0)) 2 (pt b1 0)) 3 (.slice pz3 ((h.1).length) cz3)) 5 (.int .i64 (xs9.length : Int))) 6 (.int .i64 h.2) ∧ (Exm [b] w wl) ∧ (w9.heap.size ≤ wl.heap.size) ∧ (Cu wl b B 192) ∧ (Bx wl b1 [.string .empty, .int .i64 0] 35) ∧ (Own wl pz3 ((h.1).length) cz3 3 1 (ic (h.1)) Fz3) ∧ (Fr (w2.heap.size) Fz3) ∧ (Lt Fz3 wl.heap.size) ∧ (b ∉ Fz3) ∧ (b1 ∉ Fz3) ∧ (0 ≤ h.2 ∧ (h.1.length : Int) + 31 * h.2 ≤ 98)) (g.1, x27) ⟨_, _, _, _, upd_self5 rfl rfl (slice_len hg.2) rfl rfl, L, (by omega), hcu, B1, (by rw [← hg.2] at o9; exact o9), (f9.mono (by omega)), (g9.mono (by omega)), (by first | assumption | exact nin_of f9 g9 (by omega)), (by first | assumption | exact nin_of f9 g9 (by omega)), (by show 0 ≤ x27 ∧ (g.1.length : Int) + 31 * x27 ≤ 98; omega)⟩ ?_
    rintro h E wl11 ⟨E0, pz3, cz3, Fz3, rfl, L, Lz, hcu, B1, oz3, fz3, gz3, ab_z3, ab1_z3, hh⟩
    have Lz0 := L.size
    refine wp_seq ?_
    refine wp_seq ?_
    refine c_reg ?_
    refine s0 (x_move (v := .int _ _) rfl) ?_
    refine sb (x_gtr rfl rfl) (fun h29 => ?_) (fun h29 => ?_)
    · refine c_end ?_
      refine n_then ?_
      refine c_true rfl ?_
      refine c_skipn ?_
      refine n_then ?_
      refine wp_seq ?_
      refine wp_block ?_
      refine c_reg ?_
      refine s0 (x_move (v := .slice _ _ _) rfl) ?_
      refine s0 (x_move (v := .pointer _) rfl) ?_
      refine spm (zcall cl173FT rfl) (s_l6Num b _ _ hcu) ?_
      rintro v34 w12 l13 ⟨⟨x34, rfl, hx34⟩, hcu⟩
      have z_l13 := l13.size
      have L := L.within l13 (by simp)
      have B1 := B1.ne l13 (by omega)
      have oz3 := oz3.ne l13 (by first | assumption | exact nin_of fz3 gz3 (by omega))
      refine sp (zcall cl172FT rfl) (s_ueBits _ _) ?_
      rintro v35 w14 l15 ⟨p35, c35, F35, rfl, o35, f35⟩
      have z_l15 := l15.size
      have L := L.tr l15.up
      have hcu := hcu.ext l15
      have B1 := B1.ext l15
      have oz3 := oz3.ext l15
      have g35 := o35.lt
      refine s_appi (B := w2.heap.size) so40FT zr3FT rfl rfl (xs := _) oz3 o35.sl fz3 (by have hub := ueBits_le x34; omega) (by have hub := ueBits_le x34; omega) (by have hub := ueBits_le x34; omega) ?_
      intro p36 c36 F36 w16 l17 o36 hn36 k36 f36 g36
      have Bb_36 := hcu.exm l17 (by first | assumption | exact nin_of fz3 gz3 (by omega)) (fz3.mono (by omega))
      have ab_36 : b ∉ F36 := k36.nin (by first | assumption | exact nin_of fz3 gz3 (by omega)) (by omega)
      have hcu := Bb_36
      have ab1_36 : b1 ∉ F36 := k36.nin (by first | assumption | exact nin_of fz3 gz3 (by omega)) (by omega)
      have B1 := B1.exm l17 (by first | assumption | exact nin_of fz3 gz3 (by omega))
      have z_l17 := l17.size
      have L := L.freshL l17 fz3 (by omega)
      have d35_36 : Dj F35 F36 := k36.dj (by first | assumption | exact Dj.symm (by assumption) | exact dj_of f35 g35 fz3 gz3 (by omega)) g35 (by omega)
      have o35 := o35.exm l17 (by first | assumption | exact Dj.symm (by assumption) | exact dj_of fz3 gz3 f35 g35 (by omega))
      refine s0 (x_assign (v := .slice _ _ _) rfl) ?_
      refine c_end ?_
      refine n_block ?_
      refine n_then ?_
      refine c_reg ?_
      refine s0 (x_move (v := .int _ _) rfl) ?_
      refine s0 (x_sub rfl rfl (by omega)) ?_
      refine s0 (x_assign (v := .int _ _) rfl) ?_
      refine c_end ?_
      have hub := ueBits_le x34
      exact c_round (g' := (h.1 ++ ueBits x34, h.2 - 1)) (by show (h.2 - 1).toNat < h.2.toNat; omega) ⟨_, _, _, _, upd_self5 rfl rfl (slice_len rfl) rfl rfl, L, (by omega), hcu, B1, o36, (f36.mono (by omega)), (g36.mono (by omega)), (by first | assumption | exact nin_of f36 g36 (by omega)), (by first | assumption | exact nin_of f36 g36 (by omega)), (by show 0 ≤ h.2 - 1 ∧ ((h.1 ++ ueBits x34).length : Int) + 31 * (h.2 - 1) ≤ 98; rw [List.length_append]; omega)⟩
    · refine c_end ?_
      refine n_then ?_
      refine c_false rfl ?_
      refine wp_exit (e_then (e_then (e_here ?_)))
      refine n_then ?_
      refine wp_seq ?_
      refine c_reg ?_
      refine s0 (x_move (v := .slice _ _ _) rfl) ?_
      refine sr (zcall cl147FT rfl) (s_stopped _ _ _ _ oz3.sl (by omega)) ?_
      intro w18 l19
      have z_l19 := l19.size
      have L := L.tr l19.up
      have hcu := hcu.ext l19
      have B1 := B1.ext l19
      have oz3 := oz3.ext l19
      refine s0 (x_move (v := .int _ _) rfl) ?_
      refine s0 (x_build (cs := [.string _, .int _ _]) bd35FT (pts_cons (v := .string _) rfl (pts_cons (v := .int _ _) rfl pts_nil)) rfl) ?_
      refine s_alloc zr35FT ?_
      intro b20 w21 lob20 hib20 l22 B20
      have z_l22 := l22.size
      have L := L.tr l22.up
      have hcu := hcu.ext l22
      have B1 := B1.ext l22
      have oz3 := oz3.ext l22
      refine s_storeAg rfl sz35FT rfl rfl B20 rfl rfl rfl ?_
      intro w23 l24 el24 B20
      have z_l24 := l24.size
      have L := L.fresh l24 (by omega)
      have hcu := hcu.ne l24 (by omega)
      have B1 := B1.ne l24 (by omega)
      have oz3 := oz3.ne l24 (by first | assumption | exact nin_of fz3 gz3 (by omega))
      refine c_end ?_
      refine n_then ?_
      refine wp_seq ?_
      refine wp_seq ?_
      refine c_reg ?_
      refine s0 (x_move (v := .pointer _) rfl) ?_
      refine spm (zcall cl82FT rfl) (s_once b _ _ _ hcu) ?_
      rintro v42 w25 l26 ⟨⟨x42, rfl⟩, hcu⟩
      have z_l26 := l26.size
      have L := L.within l26 (by simp)
      have B1 := B1.ne l26 (by omega)
      have B20 := B20.ne l26 (by omega)
      have oz3 := oz3.ne l26 (by first | assumption | exact nin_of fz3 gz3 (by omega))
      by_cases h42 : x42 = true
      · subst h42
        refine c_end ?_
        refine n_then ?_
        refine c_true rfl ?_
        refine wp_seq ?_
        refine c_reg ?_
        refine s0 (x_move (v := .pointer _) rfl) ?_
        refine spm (zcall cl103FT rfl) (s_l3Reader b _ _ hcu) ?_
        rintro v44 w27 l28 ⟨⟨s44, a44, rfl, hx44⟩, hcu⟩
        have z_l28 := l28.size
        have L := L.within l28 (by simp)
        have B1 := B1.ne l28 (by omega)
        have B20 := B20.ne l28 (by omega)
        have oz3 := oz3.ne l28 (by first | assumption | exact nin_of fz3 gz3 (by omega))
        refine s_storeAg rfl sz35FT rfl rfl B1 rfl rfl rfl ?_
        intro w29 l30 el30 B1
        have z_l30 := l30.size
        have L := L.fresh l30 (by omega)
        have hcu := hcu.ne l30 (by omega)
        have B20 := B20.ne l30 (by omega)
        have oz3 := oz3.ne l30 (by first | assumption | exact nin_of fz3 gz3 (by omega))
        refine c_end ?_
        refine n_then ?_
        refine wp_ret (r_then ?_)
        refine f_retc rfl rfl ag35FT B1 rfl ?_
        exact ⟨_, rfl, L, ⟨_, _, rfl, by omega⟩, hcu⟩
      · obtain rfl := Bool.eq_false_iff.2 h42
        refine c_end ?_
        refine n_then ?_
        refine c_false rfl ?_
        refine c_skipn ?_
        refine n_then ?_
        refine wp_seq ?_
        refine c_reg ?_
        refine st (x_loadAgB ag35FT rfl B20 rfl) ?_
        refine s_storeAg rfl sz35FT rfl rfl B1 rfl rfl rfl ?_
        intro w31 l32 el32 B1
        have z_l32 := l32.size
        have L := L.fresh l32 (by omega)
        have hcu := hcu.ne l32 (by omega)
        have B20 := B20.ne l32 (by omega)
        have oz3 := oz3.ne l32 (by first | assumption | exact nin_of fz3 gz3 (by omega))
        refine c_end ?_
        refine n_then ?_
        refine wp_ret ?_
        refine f_retc rfl rfl ag35FT B1 rfl ?_
        exact ⟨_, rfl, L, ⟨_, _, rfl, by have := stopped_size h.1; omega⟩, hcu⟩

theorem rdf_rows {w : World} {p : Option Addr} {m c h : Nat} {xs : List (Int × Int)} {F : List Nat} (hs : Rdf w p m c 2 (xs.flatMap erow) F) (hm : m = xs.length) (h2 : h ≤ m) : Rdf w (cutp p c 0 2) ((xs.drop 0).take (h - 0)).length (c - 0) 2 (((xs.drop 0).take (h - 0)).flatMap erow) F := by
  refine ⟨hs.1.cutr erow_len hm (Nat.zero_le _) h2, ?_, hs.2.2⟩
  intro h0 a ha
  obtain ⟨b, hb, e⟩ := cutp_block ha
  rw [← e]
  exact hs.2.1 (by rw [List.length_take, List.length_drop] at h0; omega) b hb

/-- spec.l7Table -/
theorem s_l7Table (b B : Nat) (w : World) (hcu : Cu w b B 192) :
    Calls Try.prog 85 [pt b 0].toArray w (RetM [b] w fun v w' => (∃ (p : Option Addr) (n : Nat) (xs : List (Int × Int)) (c : Nat) (F : List Nat), v = .slice p n c ∧ Rdf w' p n c 2 (xs.flatMap erow) F ∧ Fr w.heap.size F ∧ n = xs.length ∧ n ≤ 512) ∧ Cu w' b B 192) := by
  have hcb := hcu.lt
  have L : Exm [b] w w := Exm.rfl'
  refine enter (n := 23) Try.func85 rfl rfl rfl ?_
  refine wp_seq ?_
  refine c_reg ?_
  refine s0 (x_assign (v := .slice _ _ _) rfl) ?_
  refine c_end ?_
  refine n_then ?_
  refine wp_seq ?_
  refine c_reg ?_
  refine sp (zcall cl94FT rfl) (s_ueTable _) ?_
  rintro v4 w1 l2 ⟨xs4, hx4, p4, c4, F4, rfl, o4, f4⟩
  have z_l2 := l2.size
  have L := L.tr l2.up
  have hcu := hcu.ext l2
  have hl4 := ueTab_len hx4
  have g4 := o4.lt
  refine s0 (x_assign (v := .slice _ _ _) rfl) ?_
  refine c_end ?_
  refine n_then ?_
  refine wp_seq ?_
  refine wp_seq ?_
  refine c_reg ?_
  refine s0 (x_move (v := .pointer _) rfl) ?_
  refine spm (zcall cl171FT rfl) (s_below b _ _ _ hcu) ?_
  rintro v6 w3 l4 ⟨⟨x6, rfl, hx6⟩, hcu⟩
  have z_l4 := l4.size
  have L := L.within l4 (by simp)
  have o4 := o4.ne l4 (by first | assumption | exact nin_of f4 g4 (by omega))
  refine c_end ?_
  refine n_then ?_
  refine wp_block ?_
  refine wp_seq ?_
  refine c_reg ?_
  refine sb (x_eql rfl rfl) (fun h8 => ?_) (fun h8 => ?_)
  · refine s0 (x_assign (v := .bool _) rfl) ?_
    refine c_end ?_
    refine n_then ?_
    refine c_true rfl ?_
    refine c_reg ?_
    refine s0 (x_move (v := .slice _ _ _) rfl) ?_
    refine s0 (x_move (v := .pointer _) rfl) ?_
    refine s0 (x_move (v := .slice _ _ _) rfl) ?_
    refine s0 (x_lensl un26FT rfl) ?_
    refine spm (zcall cl171FT rfl) (s_below b _ _ _ hcu) ?_
    rintro v13 w5 l6 ⟨⟨x13, rfl, hx13⟩, hcu⟩
    have z_l6 := l6.size
    have L := L.within l6 (by simp)
    have o4 := o4.ne l6 (by first | assumption | exact nin_of f4 g4 (by omega))
    refine s0 (x_move (v := .pointer _) rfl) ?_
    refine spm (zcall cl171FT rfl) (s_below b _ _ _ hcu) ?_
    rintro v15 w7 l8 ⟨⟨x15, rfl, hx15⟩, hcu⟩
    have z_l8 := l8.size
    have L := L.within l8 (by simp)
    have o4 := o4.ne l8 (by first | assumption | exact nin_of f4 g4 (by omega))
    refine s0 (x_build (cs := [.int _ _, .int _ _]) bd128FT (pts_cons (v := .int _ _) rfl (pts_cons (v := .int _ _) rfl pts_nil)) rfl) ?_
    refine s0 (x_idx so26FT rfl rfl o4.sl (by decide) (by omega) (by omega)) ?_
    refine s_stor (v := (_, _)) erow_len erow_one rfl sz128FT rfl rfl (by decide) o4 (by omega) (by omega) ?_
    intro w9 l10 el10 o4
    have z_l10 := l10.size
    have L := L.freshL l10 f4 (by omega)
    have hcu := hcu.exm l10 (by first | assumption | exact nin_of f4 g4 (by omega)) (f4.mono (by omega))
    have hnl10 := o4.nr erow_len (by decide)
    refine c_end ?_
    refine n_block ?_
    refine n_then ?_
    refine wp_seq ?_
    refine c_reg ?_
    refine s0 (x_move (v := .slice _ _ _) rfl) ?_
    refine s0 (x_assign (v := .slice _ _ _) rfl) ?_
    refine c_end ?_
    refine n_then ?_
    refine wp_ret ?_
    refine f_ret rfl rfl ?_
    exact ⟨_, rfl, L, ⟨_, _, _, _, _, rfl, o4.rdf, f4.mono (by omega), by rw [List.length_set], by omega⟩, hcu⟩
  · refine s0 (x_assign (v := .bool _) rfl) ?_
    refine c_end ?_
    refine n_then ?_
    refine c_false rfl ?_
    refine wp_seq ?_
    refine c_reg ?_
    refine sb (x_eql rfl rfl) (fun h19 => ?_) (fun h19 => ?_)
    · refine s0 (x_assign (v := .bool _) rfl) ?_
      refine c_end ?_
      refine n_then ?_
      refine c_true rfl ?_
      refine wp_seq ?_
      refine c_reg ?_
      refine s0 (x_move (v := .slice _ _ _) rfl) ?_
      refine s0 (x_cuthr so26FT o4.sl (by omega) rfl rfl (by omega) (by omega)) ?_
      refine s0 (x_assign (v := .slice _ _ _) rfl) ?_
      refine c_end ?_
      refine n_then ?_
      refine wp_ret (r_block (r_then ?_))
      refine f_ret rfl rfl ?_
      exact ⟨_, rfl, L, ⟨_, _, _, _, _, rfl, rdf_rows (h := 100) o4.rdf rfl (by omega), f4.mono (by omega), rfl, by rw [List.length_take]; omega⟩, hcu⟩
    · refine s0 (x_assign (v := .bool _) rfl) ?_
      refine c_end ?_
      refine n_then ?_
      refine c_false rfl ?_
      refine c_skipn ?_
      refine n_block ?_
      refine n_then ?_
      refine wp_seq ?_
      refine c_reg ?_
      refine s0 (x_move (v := .slice _ _ _) rfl) ?_
      refine s0 (x_assign (v := .slice _ _ _) rfl) ?_
      refine c_end ?_
      refine n_then ?_
      refine wp_ret ?_
      refine f_ret rfl rfl ?_
      exact ⟨_, rfl, L, ⟨_, _, _, _, _, rfl, o4.rdf, f4.mono (by omega), rfl, by omega⟩, hcu⟩

set_option maxRecDepth 4000 in
/-- spec.DrawFastUe -/
theorem s_drawFastUe (p : Option Addr) (xs : List Int) (c : Nat) (B : Nat) (w : World) (hp : Sl w p xs.length c 1 (bc xs)) (hr : ∀ x ∈ xs, 0 ≤ x ∧ x ≤ 255) (hpB : Bl p xs.length B) (hB : B ≤ w.heap.size) (hl : xs.length ≤ 1048576) :
    Calls Try.prog 12 [.slice p xs.length c].toArray w (RetP w fun v w' => ∃ (s : ByteArray) (ca : Ca) (p : Option Addr) (n : Nat) (xs : List (Int × Int)) (c : Nat) (F : List Nat), v = .tuple [.agg [.string s, .int .i64 (ca).pos, .int .i64 (ca).word, .int .i64 (ca).hv].toArray, .slice p n c].toArray ∧ s.size ≤ 1048576 ∧ Rdf w' p n c 2 (xs.flatMap erow) F ∧ Fr w.heap.size F ∧ n = xs.length ∧ n ≤ 512) := by
  have L : Exm [] w w := Exm.rfl'
  refine enter (n := 32) Try.func12 rfl rfl rfl ?_
  refine wp_seq ?_
  refine c_reg ?_
  refine s_alloc zr25FT ?_
  intro b1 w2 lob1 hib1 l3 B1
  have z_l3 := l3.size
  have L := L.tr l3.up
  refine s0 (x_assign (v := .slice _ _ _) rfl) ?_
  refine c_end ?_
  refine n_then ?_
  refine wp_seq ?_
  refine c_reg ?_
  refine s0 (x_move (v := .slice _ _ _) rfl) ?_
  refine sp (zcall cl78FT rfl) (s_new _ _ _ B _ (hp.ext L) hr hpB (by omega) hl) ?_
  rintro v8 w4 l5 ⟨b8, rfl, ⟨lob8, hib8⟩, K8⟩
  have z_l5 := l5.size
  have L := L.tr l5.up
  have B1 := B1.ext l5
  refine s0 (x_assign (v := .pointer _) rfl) ?_
  refine c_end ?_
  refine n_then ?_
  refine wp_seq ?_
  refine c_reg ?_
  refine s0 (x_move (v := .pointer _) rfl) ?_
  refine spm (zcall cl79FT rfl) (s_l6Reader b8 _ _ K8) ?_
  rintro v10 w6 l7 ⟨⟨s10, a10, rfl, hx10⟩, K8⟩
  have z_l7 := l7.size
  have L := L.fresh l7 (by omega)
  have B1 := B1.ne l7 (by omega)
  refine s_alloc zr35FT ?_
  intro b9 w10 lob9 hib9 l11 B9
  have z_l11 := l11.size
  have L := L.tr l11.up
  have B1 := B1.ext l11
  have K8 := K8.ext l11
  refine s_storeAg rfl sz35FT rfl rfl B9 rfl rfl rfl ?_
  intro w12 l13 el13 B9
  have z_l13 := l13.size
  have L := L.fresh l13 (by omega)
  have B1 := B1.ne l13 (by omega)
  have K8 := K8.ne l13 (by omega)
  refine c_end ?_
  refine n_then ?_
  refine wp_seq ?_
  refine c_reg ?_
  refine s0 (x_move (v := .pointer _) rfl) ?_
  refine spm (zcall cl80FT rfl) (s_l4Cache b8 _ _ K8) ?_
  rintro v12 w14 l15 ⟨⟨s12, c12, rfl, hx12⟩, K8⟩
  have z_l15 := l15.size
  have L := L.fresh l15 (by omega)
  have B1 := B1.ne l15 (by omega)
  have B9 := B9.ne l15 (by omega)
  refine s_alloc zr25FT ?_
  intro b16 w17 lob16 hib16 l18 B16
  have z_l18 := l18.size
  have L := L.tr l18.up
  have B1 := B1.ext l18
  have K8 := K8.ext l18
  have B9 := B9.ext l18
  refine s_storeAg rfl sz25FT rfl rfl B16 rfl rfl rfl ?_
  intro w19 l20 el20 B16
  have z_l20 := l20.size
  have L := L.fresh l20 (by omega)
  have B1 := B1.ne l20 (by omega)
  have K8 := K8.ne l20 (by omega)
  have B9 := B9.ne l20 (by omega)
  refine c_end ?_
  refine n_then ?_
  refine wp_seq ?_
  refine wp_seq ?_
  refine c_reg ?_
  refine st (x_loadAgB ag35FT rfl B9 rfl) ?_
  refine srb (zcall cl81FT rfl) (s_readerOk _ _ _ (by omega)) (fun h14 w21 l22 => ?_) (fun h14 w21 l22 => ?_)
  · have z_l22 := l22.size
    have L := L.tr l22.up
    have B1 := B1.ext l22
    have K8 := K8.ext l22
    have B9 := B9.ext l22
    have B16 := B16.ext l22
    refine s0 (x_move (v := .bool _) rfl) ?_
    refine gt rfl rfl rfl rfl ?_
    refine s0 (x_move (v := .pointer _) rfl) ?_
    refine gt rfl rfl rfl rfl ?_
    refine spm (zcall cl82FT rfl) (s_once b8 _ _ _ K8) ?_
    rintro v17 w23 l24 ⟨⟨x17, rfl⟩, K8⟩
    have z_l24 := l24.size
    have L := L.fresh l24 (by omega)
    have B1 := B1.ne l24 (by omega)
    have B9 := B9.ne l24 (by omega)
    have B16 := B16.ne l24 (by omega)
    by_cases h17 : x17 = true
    · subst h17
      refine gt rfl rfl rfl rfl ?_
      refine s0 (x_not rfl) ?_
      refine s0 (x_pickt (v := .bool _) rfl rfl) ?_
      refine c_end ?_
      refine n_then ?_
      refine c_false rfl ?_
      refine c_skipn ?_
      refine n_then ?_
      refine wp_seq ?_
      refine c_plan (fun wq => Exm [b1, b8] w23 wq) 5 (.cons (0, 1) (.cons (1, 2) (.cons (2, 0) (.cons (3, 0) (.cons (4, 2) .nil))))) (by kernel_rfl) (by kernel_rfl) (Exm.drew _) ?_
      obtain ⟨w25, hwd⟩ : ∃ x, x = w23.drew := ⟨_, rfl⟩
      have l26 : Ext w23 w25 := by rw [hwd]; exact Exm.drew _
      rw [← hwd]; clear hwd
      have Lq : Exm [b1, b8] w23 w25 := l26.up
      have qB1 := B1
      have qK8 := K8
      have qB9 := B9
      have qB16 := B16
      have qL := L
      have z_l26 := l26.size
      have L := L.tr l26.up
      have B1 := B1.ext l26
      have K8 := K8.ext l26
      have B9 := B9.ext l26
      have B16 := B16.ext l26
      refine ps rfl (fun wq hwq => x_loadAgB ag25FT rfl (qB16.exm hwq (by simp; omega)) rfl) ?_
      refine p0 rfl (x_move (v := .pointer _) rfl) ?_
      refine pu rfl ?_ (by rintro ⟨_, _, h, _⟩; cases h)
      refine spm (zcall cl85FT rfl) (s_l7Table b8 _ _ K8) ?_
      rintro v31 w27 l28 ⟨⟨p31, n31, xs31, c31, F31, rfl, o31, f31, rfl, hx31⟩, K8⟩
      have z_l28 := l28.size
      have L := L.fresh l28 (by omega)
      have Lq := Lq.within l28 (by simp)
      have B1 := B1.ne l28 (by omega)
      have B9 := B9.ne l28 (by omega)
      have B16 := B16.ne l28 (by omega)
      have g31 := o31.lt
      refine c_end ⟨rfl, fun h hS => Lq, ?_⟩
      refine pu rfl ?_ (by rintro ⟨_, _, h, _⟩; cases h)
      refine s_storeAg rfl sz25FT rfl rfl B1 rfl rfl rfl ?_
      intro w29 l30 el30 B1
      have z_l30 := l30.size
      have L := L.fresh l30 (by omega)
      have Lq := Lq.within l30 (by simp)
      have K8 := K8.ne l30 (by omega)
      have B9 := B9.ne l30 (by omega)
      have B16 := B16.ne l30 (by omega)
      have o31 := o31.ne l30 (by first | assumption | exact nin_of f31 g31 (by omega))
      refine c_end ⟨rfl, fun h hS => Lq, ?_⟩
      refine p0 rfl (x_assign (v := .slice _ _ _) rfl) ?_
      refine p_nil (np_normal ?_)
      refine n_then ?_
      refine wp_ret ?_
      refine f_rets2 rfl (ro_cell rfl ag25FT B1 rfl) (ro_tmp rfl) ?_
      exact ⟨_, rfl, L, _, _, _, _, _, _, _, rfl, by omega, o31, f31.mono (by omega), rfl, hx31⟩
    · obtain rfl := Bool.eq_false_iff.2 h17
      refine gt rfl rfl rfl rfl ?_
      refine s0 (x_not rfl) ?_
      refine s0 (x_pickt (v := .bool _) rfl rfl) ?_
      refine c_end ?_
      refine n_then ?_
      refine c_true rfl ?_
      refine wp_seq ?_
      refine c_reg ?_
      refine s0 (x_fieldAddr fa35_0FT rfl) ?_
      refine st (x_loadB sc9FT rfl B9 rfl) ?_
      refine s0 (x_fieldAddr fa35_1FT rfl) ?_
      refine st (x_loadB sc3FT rfl B9 rfl) ?_
      refine sr (zcall cl83FT rfl) (s_l7At _ _ _ (by omega) (by omega)) ?_
      intro w31 l32
      have z_l32 := l32.size
      have L := L.tr l32.up
      have B1 := B1.ext l32
      have K8 := K8.ext l32
      have B9 := B9.ext l32
      have B16 := B16.ext l32
      refine s_storeAg rfl sz25FT rfl rfl B16 rfl rfl rfl ?_
      intro w33 l34 el34 B16
      have z_l34 := l34.size
      have L := L.fresh l34 (by omega)
      have B1 := B1.ne l34 (by omega)
      have K8 := K8.ne l34 (by omega)
      have B9 := B9.ne l34 (by omega)
      refine c_end ?_
      refine n_then ?_
      refine wp_seq ?_
      refine c_reg ?_
      refine s0 (x_move (v := .pointer _) rfl) ?_
      refine spm (zcall cl82FT rfl) (s_once b8 _ _ _ K8) ?_
      rintro v26 w35 l36 ⟨⟨x26, rfl⟩, K8⟩
      have z_l36 := l36.size
      have L := L.fresh l36 (by omega)
      have B1 := B1.ne l36 (by omega)
      have B9 := B9.ne l36 (by omega)
      have B16 := B16.ne l36 (by omega)
      by_cases h26 : x26 = true
      · subst h26
        refine c_end ?_
        refine n_then ?_
        refine c_true rfl ?_
        refine c_reg ?_
        refine st (x_loadAgB ag25FT rfl B16 rfl) ?_
        refine sr (zcall cl84FT rfl) (s_refill _ _ _ (by omega)) ?_
        intro w37 l38
        have z_l38 := l38.size
        have L := L.tr l38.up
        have B1 := B1.ext l38
        have K8 := K8.ext l38
        have B9 := B9.ext l38
        have B16 := B16.ext l38
        refine s_storeAg rfl sz25FT rfl rfl B16 rfl rfl rfl ?_
        intro w39 l40 el40 B16
        have z_l40 := l40.size
        have L := L.fresh l40 (by omega)
        have B1 := B1.ne l40 (by omega)
        have K8 := K8.ne l40 (by omega)
        have B9 := B9.ne l40 (by omega)
        refine c_end ?_
        refine n_then ?_
        refine wp_seq ?_
        refine c_plan (fun wq => Exm [b1, b8] w39 wq) 5 (.cons (0, 1) (.cons (1, 2) (.cons (2, 0) (.cons (3, 0) (.cons (4, 2) .nil))))) (by kernel_rfl) (by kernel_rfl) (Exm.drew _) ?_
        obtain ⟨w41, hwd⟩ : ∃ x, x = w39.drew := ⟨_, rfl⟩
        have l42 : Ext w39 w41 := by rw [hwd]; exact Exm.drew _
        rw [← hwd]; clear hwd
        have Lq : Exm [b1, b8] w39 w41 := l42.up
        have qB1 := B1
        have qK8 := K8
        have qB9 := B9
        have qB16 := B16
        have qL := L
        have z_l42 := l42.size
        have L := L.tr l42.up
        have B1 := B1.ext l42
        have K8 := K8.ext l42
        have B9 := B9.ext l42
        have B16 := B16.ext l42
        refine ps rfl (fun wq hwq => x_loadAgB ag25FT rfl (qB16.exm hwq (by simp; omega)) rfl) ?_
        refine p0 rfl (x_move (v := .pointer _) rfl) ?_
        refine pu rfl ?_ (by rintro ⟨_, _, h, _⟩; cases h)
        refine spm (zcall cl85FT rfl) (s_l7Table b8 _ _ K8) ?_
        rintro v31 w43 l44 ⟨⟨p31, n31, xs31, c31, F31, rfl, o31, f31, rfl, hx31⟩, K8⟩
        have z_l44 := l44.size
        have L := L.fresh l44 (by omega)
        have Lq := Lq.within l44 (by simp)
        have B1 := B1.ne l44 (by omega)
        have B9 := B9.ne l44 (by omega)
        have B16 := B16.ne l44 (by omega)
        have g31 := o31.lt
        refine c_end ⟨rfl, fun h hS => Lq, ?_⟩
        refine pu rfl ?_ (by rintro ⟨_, _, h, _⟩; cases h)
        refine s_storeAg rfl sz25FT rfl rfl B1 rfl rfl rfl ?_
        intro w45 l46 el46 B1
        have z_l46 := l46.size
        have L := L.fresh l46 (by omega)
        have Lq := Lq.within l46 (by simp)
        have K8 := K8.ne l46 (by omega)
        have B9 := B9.ne l46 (by omega)
        have B16 := B16.ne l46 (by omega)
        have o31 := o31.ne l46 (by first | assumption | exact nin_of f31 g31 (by omega))
        refine c_end ⟨rfl, fun h hS => Lq, ?_⟩
        refine p0 rfl (x_assign (v := .slice _ _ _) rfl) ?_
        refine p_nil (np_normal ?_)
        refine n_then ?_
        refine wp_ret ?_
        refine f_rets2 rfl (ro_cell rfl ag25FT B1 rfl) (ro_tmp rfl) ?_
        exact ⟨_, rfl, L, _, _, _, _, _, _, _, rfl, by omega, o31, f31.mono (by omega), rfl, hx31⟩
      · obtain rfl := Bool.eq_false_iff.2 h26
        refine c_end ?_
        refine n_then ?_
        refine c_false rfl ?_
        refine c_skipn ?_
        refine n_then ?_
        refine wp_seq ?_
        refine c_plan (fun wq => Exm [b1, b8] w35 wq) 5 (.cons (0, 1) (.cons (1, 2) (.cons (2, 0) (.cons (3, 0) (.cons (4, 2) .nil))))) (by kernel_rfl) (by kernel_rfl) (Exm.drew _) ?_
        obtain ⟨w47, hwd⟩ : ∃ x, x = w35.drew := ⟨_, rfl⟩
        have l48 : Ext w35 w47 := by rw [hwd]; exact Exm.drew _
        rw [← hwd]; clear hwd
        have Lq : Exm [b1, b8] w35 w47 := l48.up
        have qB1 := B1
        have qK8 := K8
        have qB9 := B9
        have qB16 := B16
        have qL := L
        have z_l48 := l48.size
        have L := L.tr l48.up
        have B1 := B1.ext l48
        have K8 := K8.ext l48
        have B9 := B9.ext l48
        have B16 := B16.ext l48
        refine ps rfl (fun wq hwq => x_loadAgB ag25FT rfl (qB16.exm hwq (by simp; omega)) rfl) ?_
        refine p0 rfl (x_move (v := .pointer _) rfl) ?_
        refine pu rfl ?_ (by rintro ⟨_, _, h, _⟩; cases h)
        refine spm (zcall cl85FT rfl) (s_l7Table b8 _ _ K8) ?_
        rintro v31 w49 l50 ⟨⟨p31, n31, xs31, c31, F31, rfl, o31, f31, rfl, hx31⟩, K8⟩
        have z_l50 := l50.size
        have L := L.fresh l50 (by omega)
        have Lq := Lq.within l50 (by simp)
        have B1 := B1.ne l50 (by omega)
        have B9 := B9.ne l50 (by omega)
        have B16 := B16.ne l50 (by omega)
        have g31 := o31.lt
        refine c_end ⟨rfl, fun h hS => Lq, ?_⟩
        refine pu rfl ?_ (by rintro ⟨_, _, h, _⟩; cases h)
        refine s_storeAg rfl sz25FT rfl rfl B1 rfl rfl rfl ?_
        intro w51 l52 el52 B1
        have z_l52 := l52.size
        have L := L.fresh l52 (by omega)
        have Lq := Lq.within l52 (by simp)
        have K8 := K8.ne l52 (by omega)
        have B9 := B9.ne l52 (by omega)
        have B16 := B16.ne l52 (by omega)
        have o31 := o31.ne l52 (by first | assumption | exact nin_of f31 g31 (by omega))
        refine c_end ⟨rfl, fun h hS => Lq, ?_⟩
        refine p0 rfl (x_assign (v := .slice _ _ _) rfl) ?_
        refine p_nil (np_normal ?_)
        refine n_then ?_
        refine wp_ret ?_
        refine f_rets2 rfl (ro_cell rfl ag25FT B1 rfl) (ro_tmp rfl) ?_
        exact ⟨_, rfl, L, _, _, _, _, _, _, _, rfl, by omega, o31, f31.mono (by omega), rfl, hx31⟩
  · have z_l22 := l22.size
    have L := L.tr l22.up
    have B1 := B1.ext l22
    have K8 := K8.ext l22
    have B9 := B9.ext l22
    have B16 := B16.ext l22
    refine s0 (x_move (v := .bool _) rfl) ?_
    refine gf rfl rfl rfl rfl ?_
    refine gf rfl rfl rfl rfl ?_
    refine gf rfl rfl rfl rfl ?_
    refine s0 (x_pickf (v := .bool _) rfl rfl) ?_
    refine c_end ?_
    refine n_then ?_
    refine c_false rfl ?_
    refine c_skipn ?_
    refine n_then ?_
    refine wp_seq ?_
    refine c_plan (fun wq => Exm [b1, b8] w21 wq) 5 (.cons (0, 1) (.cons (1, 2) (.cons (2, 0) (.cons (3, 0) (.cons (4, 2) .nil))))) (by kernel_rfl) (by kernel_rfl) (Exm.drew _) ?_
    obtain ⟨w53, hwd⟩ : ∃ x, x = w21.drew := ⟨_, rfl⟩
    have l54 : Ext w21 w53 := by rw [hwd]; exact Exm.drew _
    rw [← hwd]; clear hwd
    have Lq : Exm [b1, b8] w21 w53 := l54.up
    have qB1 := B1
    have qK8 := K8
    have qB9 := B9
    have qB16 := B16
    have qL := L
    have z_l54 := l54.size
    have L := L.tr l54.up
    have B1 := B1.ext l54
    have K8 := K8.ext l54
    have B9 := B9.ext l54
    have B16 := B16.ext l54
    refine ps rfl (fun wq hwq => x_loadAgB ag25FT rfl (qB16.exm hwq (by simp; omega)) rfl) ?_
    refine p0 rfl (x_move (v := .pointer _) rfl) ?_
    refine pu rfl ?_ (by rintro ⟨_, _, h, _⟩; cases h)
    refine spm (zcall cl85FT rfl) (s_l7Table b8 _ _ K8) ?_
    rintro v31 w55 l56 ⟨⟨p31, n31, xs31, c31, F31, rfl, o31, f31, rfl, hx31⟩, K8⟩
    have z_l56 := l56.size
    have L := L.fresh l56 (by omega)
    have Lq := Lq.within l56 (by simp)
    have B1 := B1.ne l56 (by omega)
    have B9 := B9.ne l56 (by omega)
    have B16 := B16.ne l56 (by omega)
    have g31 := o31.lt
    refine c_end ⟨rfl, fun h hS => Lq, ?_⟩
    refine pu rfl ?_ (by rintro ⟨_, _, h, _⟩; cases h)
    refine s_storeAg rfl sz25FT rfl rfl B1 rfl rfl rfl ?_
    intro w57 l58 el58 B1
    have z_l58 := l58.size
    have L := L.fresh l58 (by omega)
    have Lq := Lq.within l58 (by simp)
    have K8 := K8.ne l58 (by omega)
    have B9 := B9.ne l58 (by omega)
    have B16 := B16.ne l58 (by omega)
    have o31 := o31.ne l58 (by first | assumption | exact nin_of f31 g31 (by omega))
    refine c_end ⟨rfl, fun h hS => Lq, ?_⟩
    refine p0 rfl (x_assign (v := .slice _ _ _) rfl) ?_
    refine p_nil (np_normal ?_)
    refine n_then ?_
    refine wp_ret ?_
    refine f_rets2 rfl (ro_cell rfl ag25FT B1 rfl) (ro_tmp rfl) ?_
    exact ⟨_, rfl, L, _, _, _, _, _, _, _, rfl, by omega, o31, f31.mono (by omega), rfl, hx31⟩

end Go.Proofs.Ytnehdmcilmlchaa
