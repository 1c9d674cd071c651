/- What each function of this part returns, for every argument that meets its premises. -/
import Derived.Test.YtglepnbcplldeaaF7
namespace Go.Proofs.Ytglepnbcplldeaa
open Go.Sx Go.Pl Go.RowKit
theorem ag70 : Ag Try.prog 70 2 := ⟨⟨_, Try.underlying70⟩, by kernel_rfl⟩
theorem cl53 : Callable Try.prog 53 := callable Try.func53 (by kernel_rfl) rfl
theorem cl54 : Callable Try.prog 54 := callable Try.func54 (by kernel_rfl) rfl
theorem cl55 : Callable Try.prog 55 := callable Try.func55 (by kernel_rfl) rfl
theorem cl56 : Callable Try.prog 56 := callable Try.func56 (by kernel_rfl) rfl
theorem cl57 : Callable Try.prog 57 := callable Try.func57 (by kernel_rfl) rfl
/-- laws.FnExactSameMb -/
theorem l_fnSameMb (e e' : Bool) (p q : Option Addr) (us bs : List Bk) (c d : Nat) (w : World) (hp : RdBs w p us c) (hq : RdBs w q bs d) (hl : us.length ≤ 9223372036854775807) (hb : ∀ b ∈ us, b.lv.length ≤ 9223372036854775807) (hl2 : bs.length ≤ 9223372036854775807) (hb2 : ∀ b ∈ bs, b.lv.length ≤ 9223372036854775807) :
    Calls Try.prog 15 [.agg [.bool e, .slice p us.length c].toArray, .agg [.bool e', .slice q bs.length d].toArray].toArray w (Ret w (.bool true)) := by
  have L : Exm [] w w := Exm.rfl'
  refine enter (n := 45) Try.func15 rfl rfl rfl ?_
  refine wp_seq ?_
  refine c_reg ?_
  refine s_box rfl rfl ?_
  intro b1 w2 lob1 hib1 l3 B1
  have z_l3 := l3.size
  have L := L.tr l3.up
  refine s_box rfl rfl ?_
  intro b4 w5 lob4 hib4 l6 B4
  have z_l6 := l6.size
  have L := L.tr l6.up
  have B1 := B1.ext l6
  refine s0 (x_assign (v := .bool _) rfl) ?_
  refine c_end ?_
  refine n_then ?_
  refine wp_seq ?_
  refine c_reg ?_
  refine s0 (x_assign (v := .int _ _) rfl) ?_
  refine c_end ?_
  refine n_then ?_
  refine wp_seq ?_
  refine c_reg ?_
  refine st (x_loadAgB ag70 rfl B1 rfl) ?_
  refine s0 (x_move (v := .int _ _) rfl) ?_
  refine sp (zcall cl53 rfl) (l_szMb _ _ _ _ _ _ (hp.ext L) (by omega) hb (by omega)) ?_
  rintro v12 w7 l8 ⟨r12, rfl, hr12⟩
  have z_l8 := l8.size
  have L := L.tr l8.up
  have B1 := B1.ext l8
  have B4 := B4.ext l8
  refine s0 (x_assign (v := .int _ _) rfl) ?_
  refine c_end ?_
  refine n_then ?_
  refine wp_seq ?_
  refine wp_seq ?_
  refine c_reg ?_
  refine s0 (x_move (v := .int _ _) rfl) ?_
  refine sb (x_lss rfl rfl) (fun h14 => ?_) (fun h14 => ?_)
  · refine c_end ?_
    refine n_then ?_
    refine c_true rfl ?_
    refine wp_seq ?_
    refine c_reg ?_
    refine s0 (x_assign (v := .bool _) rfl) ?_
    refine c_end ?_
    refine n_then ?_
    refine wp_ret (r_then ?_)
    refine f_ret rfl rfl ?_
    exact ⟨rfl, L⟩
  · refine c_end ?_
    refine n_then ?_
    refine c_false rfl ?_
    refine c_skipn ?_
    refine n_then ?_
    refine wp_seq ?_
    have hA := hr12.resolve_left (by omega)
    refine c_reg ?_
    refine st (x_loadAgB ag70 rfl B4 rfl) ?_
    refine s0 (x_move (v := .int _ _) rfl) ?_
    refine sp (zcall cl53 rfl) (l_szMb _ _ _ _ _ _ (hq.ext L) (by omega) hb2 (by omega)) ?_
    rintro v17 w9 l10 ⟨r17, rfl, hr17⟩
    have z_l10 := l10.size
    have L := L.tr l10.up
    have B1 := B1.ext l10
    have B4 := B4.ext l10
    refine s0 (x_assign (v := .int _ _) rfl) ?_
    refine c_end ?_
    refine n_then ?_
    refine wp_seq ?_
    refine wp_seq ?_
    refine c_reg ?_
    refine s0 (x_move (v := .int _ _) rfl) ?_
    refine sb (x_lss rfl rfl) (fun h19 => ?_) (fun h19 => ?_)
    · refine c_end ?_
      refine n_then ?_
      refine c_true rfl ?_
      refine wp_seq ?_
      refine c_reg ?_
      refine s0 (x_assign (v := .bool _) rfl) ?_
      refine c_end ?_
      refine n_then ?_
      refine wp_ret (r_then ?_)
      refine f_ret rfl rfl ?_
      exact ⟨rfl, L⟩
    · refine c_end ?_
      refine n_then ?_
      refine c_false rfl ?_
      refine c_skipn ?_
      refine n_then ?_
      refine wp_seq ?_
      have hB := hr17.resolve_left (by omega)
      have hbA : ∀ b ∈ us, b.lv.length ≤ 1099511627776 := fun b h => by have := hA.2.2.2 b h; omega
      have hbB : ∀ b ∈ bs, b.lv.length ≤ 1099511627776 := fun b h => by have := hB.2.2.2 b h; omega
      refine c_plan (fun wq => Exm [] w9 wq) 6 [(0, 1), (2, 1), (1, 0), (3, 0), (4, 0), (5, 2)] (by kernel_rfl) (by kernel_rfl) (Exm.drew _) ?_
      obtain ⟨w11, hwd⟩ : ∃ x, x = w9.drew := ⟨_, rfl⟩
      have l12 : Ext w9 w11 := by rw [hwd]; exact Exm.drew _
      rw [← hwd]; clear hwd
      have Lq : Exm [] w9 w11 := l12.up
      have qB1 := B1
      have qB4 := B4
      have qL := L
      have z_l12 := l12.size
      have L := L.tr l12.up
      have B1 := B1.ext l12
      have B4 := B4.ext l12
      refine ps rfl (fun wq hwq => x_loadAgB ag70 rfl (qB1.ext hwq) rfl) ?_
      refine ps rfl (fun wq hwq => x_loadAgB ag70 rfl (qB4.ext hwq) rfl) ?_
      refine pu rfl ?_ (by rintro ⟨_, _, h, _⟩; cases h)
      refine sp (zcall cl55 rfl) (l_toMb _ _ _ _ _ (hp.ext L) (by omega) hbA) ?_
      rintro v21 w13 l14 ⟨p21, bs21, c21, F21, rfl, o21, f21, hm21⟩
      have z_l14 := l14.size
      have L := L.tr l14.up
      have Lq := Lq.tr l14.up
      have B1 := B1.ext l14
      have B4 := B4.ext l14
      have hb21 := pl_bound hm21 hbA
      have hn21 := map_len hm21
      have g21 := o21.lt
      refine c_end ⟨rfl, fun h => Lq, ?_⟩
      refine pu rfl ?_ (by rintro ⟨_, _, h, _⟩; cases h)
      refine sp (zcall cl55 rfl) (l_toMb _ _ _ _ _ (hq.ext L) (by omega) hbB) ?_
      rintro v23 w15 l16 ⟨p23, bs23, c23, F23, rfl, o23, f23, hm23⟩
      have z_l16 := l16.size
      have L := L.tr l16.up
      have Lq := Lq.tr l16.up
      have B1 := B1.ext l16
      have B4 := B4.ext l16
      have o21 := o21.ext l16
      have hb23 := pl_bound hm23 hbB
      have hn23 := map_len hm23
      have g23 := o23.lt
      refine c_end ⟨rfl, fun h => Lq, ?_⟩
      refine pu rfl ?_ (by rintro ⟨_, _, h, _⟩; cases h)
      refine sr (zcall cl54 rfl) (s_sameMb _ _ _ _ _ _ _ _ _ o21.rd o23.rd (by omega) hb21) ?_
      intro w17 l18
      have z_l18 := l18.size
      have L := L.tr l18.up
      have Lq := Lq.tr l18.up
      have B1 := B1.ext l18
      have B4 := B4.ext l18
      have o21 := o21.ext l18
      have o23 := o23.ext l18
      refine c_end ⟨rfl, fun h => Lq, ?_⟩
      refine p0 rfl (x_assign (v := .bool _) rfl) ?_
      refine p_nil (np_normal ?_)
      refine n_then ?_
      refine wp_seq ?_
      refine c_reg ?_
      refine st (x_loadAgB ag70 rfl B1 rfl) ?_
      refine sp (zcall cl55 rfl) (l_toMb _ _ _ _ _ (hp.ext L) (by omega) hbA) ?_
      rintro v26 w19 l20 ⟨p26, bs26, c26, F26, rfl, o26, f26, hm26⟩
      have z_l20 := l20.size
      have L := L.tr l20.up
      have B1 := B1.ext l20
      have B4 := B4.ext l20
      have o21 := o21.ext l20
      have o23 := o23.ext l20
      have hb26 := pl_bound hm26 hbA
      have hn26 := map_len hm26
      have g26 := o26.lt
      refine s_alloc zr75 ?_
      intro b21 w22 lob21 hib21 l23 B21
      have z_l23 := l23.size
      have L := L.tr l23.up
      have B1 := B1.ext l23
      have B4 := B4.ext l23
      have o21 := o21.ext l23
      have o23 := o23.ext l23
      have o26 := o26.ext l23
      refine s_storeAg rfl sz75 rfl rfl B21 rfl rfl rfl ?_
      intro w24 l25 el25 B21
      have z_l25 := l25.size
      have L := L.fresh l25 (by omega)
      have B1 := B1.ne l25 (by omega)
      have B4 := B4.ne l25 (by omega)
      have o21 := o21.ne l25 (by first | assumption | exact nin_of f21 g21 (by omega))
      have o23 := o23.ne l25 (by first | assumption | exact nin_of f23 g23 (by omega))
      have o26 := o26.ne l25 (by first | assumption | exact nin_of f26 g26 (by omega))
      refine c_end ?_
      refine n_then ?_
      refine wp_seq ?_
      refine c_reg ?_
      refine st (x_loadAgB ag70 rfl B4 rfl) ?_
      refine sp (zcall cl55 rfl) (l_toMb _ _ _ _ _ (hq.ext L) (by omega) hbB) ?_
      rintro v28 w26 l27 ⟨p28, bs28, c28, F28, rfl, o28, f28, hm28⟩
      have z_l27 := l27.size
      have L := L.tr l27.up
      have B1 := B1.ext l27
      have B4 := B4.ext l27
      have B21 := B21.ext l27
      have o21 := o21.ext l27
      have o23 := o23.ext l27
      have o26 := o26.ext l27
      have hb28 := pl_bound hm28 hbB
      have hn28 := map_len hm28
      have g28 := o28.lt
      refine s_alloc zr75 ?_
      intro b28 w29 lob28 hib28 l30 B28
      have z_l30 := l30.size
      have L := L.tr l30.up
      have B1 := B1.ext l30
      have B4 := B4.ext l30
      have B21 := B21.ext l30
      have o21 := o21.ext l30
      have o23 := o23.ext l30
      have o26 := o26.ext l30
      have o28 := o28.ext l30
      refine s_storeAg rfl sz75 rfl rfl B28 rfl rfl rfl ?_
      intro w31 l32 el32 B28
      have z_l32 := l32.size
      have L := L.fresh l32 (by omega)
      have B1 := B1.ne l32 (by omega)
      have B4 := B4.ne l32 (by omega)
      have B21 := B21.ne l32 (by omega)
      have o21 := o21.ne l32 (by first | assumption | exact nin_of f21 g21 (by omega))
      have o23 := o23.ne l32 (by first | assumption | exact nin_of f23 g23 (by omega))
      have o26 := o26.ne l32 (by first | assumption | exact nin_of f26 g26 (by omega))
      have o28 := o28.ne l32 (by first | assumption | exact nin_of f28 g28 (by omega))
      refine c_end ?_
      refine n_then ?_
      refine wp_seq ?_
      refine c_reg ?_
      refine st (x_loadAgB ag75 rfl B21 rfl) ?_
      refine st (x_loadAgB ag75 rfl B28 rfl) ?_
      refine sr (zcall cl56 rfl) (i_sameMb _ _ _ _ _ _ _ _ _ o26.rd o28.rd (by omega) hb26) ?_
      intro w33 l34
      have z_l34 := l34.size
      have L := L.tr l34.up
      have B1 := B1.ext l34
      have B4 := B4.ext l34
      have B21 := B21.ext l34
      have B28 := B28.ext l34
      have o21 := o21.ext l34
      have o23 := o23.ext l34
      have o26 := o26.ext l34
      have o28 := o28.ext l34
      refine s0 (x_assign (v := .bool _) rfl) ?_
      refine c_end ?_
      refine n_then ?_
      refine wp_seq ?_
      refine wp_seq ?_
      refine c_reg ?_
      refine s0 (x_move (v := .bool _) rfl) ?_
      refine s0 (x_move (v := .bool _) rfl) ?_
      refine sb (x_neqb un4 rfl rfl) (fun h34 => ?_) (fun h34 => ?_)
      · exact (h34 (by simp only [hm26, hm28, hm21, hm23])).elim
      · refine c_end ?_
        refine n_then ?_
        refine c_false rfl ?_
        refine c_skipn ?_
        refine n_then ?_
        refine wp_seq ?_
        refine wp_seq ?_
        refine c_plan (fun wq => Exm [] w33 wq) 5 [(0, 1), (1, 1), (2, 0), (3, 0), (4, 2)] (by kernel_rfl) (by kernel_rfl) (Exm.drew _) ?_
        obtain ⟨w35, hwd⟩ : ∃ x, x = w33.drew := ⟨_, rfl⟩
        have l36 : Ext w33 w35 := by rw [hwd]; exact Exm.drew _
        rw [← hwd]; clear hwd
        have Lq : Exm [] w33 w35 := l36.up
        have qB1 := B1
        have qB4 := B4
        have qB21 := B21
        have qB28 := B28
        have qo21 := o21
        have qo23 := o23
        have qo26 := o26
        have qo28 := o28
        have qL := L
        have z_l36 := l36.size
        have L := L.tr l36.up
        have B1 := B1.ext l36
        have B4 := B4.ext l36
        have B21 := B21.ext l36
        have B28 := B28.ext l36
        have o21 := o21.ext l36
        have o23 := o23.ext l36
        have o26 := o26.ext l36
        have o28 := o28.ext l36
        refine ps rfl (fun wq hwq => x_loadAgB ag75 rfl (qB21.ext hwq) rfl) ?_
        refine ps rfl (fun wq hwq => x_loadAgB ag70 rfl (qB1.ext hwq) rfl) ?_
        refine pu rfl ?_ (by rintro ⟨_, _, h, _⟩; cases h)
        refine sp (zcall cl55 rfl) (l_toMb _ _ _ _ _ (hp.ext L) (by omega) hbA) ?_
        rintro v37 w37 l38 ⟨p37, bs37, c37, F37, rfl, o37, f37, hm37⟩
        have z_l38 := l38.size
        have L := L.tr l38.up
        have Lq := Lq.tr l38.up
        have B1 := B1.ext l38
        have B4 := B4.ext l38
        have B21 := B21.ext l38
        have B28 := B28.ext l38
        have o21 := o21.ext l38
        have o23 := o23.ext l38
        have o26 := o26.ext l38
        have o28 := o28.ext l38
        have hb37 := pl_bound hm37 hbA
        have hn37 := map_len hm37
        have g37 := o37.lt
        refine c_end ⟨rfl, fun h => Lq, ?_⟩
        refine pu rfl ?_ (by rintro ⟨_, _, h, _⟩; cases h)
        refine srb (zcall cl57 rfl) (l_eqMb _ _ _ _ _ _ _ _ _ o26.rd o37.rd (by omega) hb26) (fun h38 w39 l40 => ?_) (fun h38 w39 l40 => ?_)
        · have z_l40 := l40.size
          have L := L.tr l40.up
          have Lq := Lq.tr l40.up
          have B1 := B1.ext l40
          have B4 := B4.ext l40
          have B21 := B21.ext l40
          have B28 := B28.ext l40
          have o21 := o21.ext l40
          have o23 := o23.ext l40
          have o26 := o26.ext l40
          have o28 := o28.ext l40
          have o37 := o37.ext l40
          refine c_end ⟨rfl, fun h => Lq, ?_⟩
          refine p0 rfl (x_not rfl) ?_
          refine p_nil (np_normal ?_)
          refine n_then ?_
          refine c_false rfl ?_
          refine c_skipn ?_
          refine n_then ?_
          refine wp_seq ?_
          refine wp_seq ?_
          refine c_plan (fun wq => Exm [] w39 wq) 5 [(0, 1), (1, 1), (2, 0), (3, 0), (4, 2)] (by kernel_rfl) (by kernel_rfl) (Exm.drew _) ?_
          obtain ⟨w41, hwd⟩ : ∃ x, x = w39.drew := ⟨_, rfl⟩
          have l42 : Ext w39 w41 := by rw [hwd]; exact Exm.drew _
          rw [← hwd]; clear hwd
          have Lq : Exm [] w39 w41 := l42.up
          have qB1 := B1
          have qB4 := B4
          have qB21 := B21
          have qB28 := B28
          have qo21 := o21
          have qo23 := o23
          have qo26 := o26
          have qo28 := o28
          have qo37 := o37
          have qL := L
          have z_l42 := l42.size
          have L := L.tr l42.up
          have B1 := B1.ext l42
          have B4 := B4.ext l42
          have B21 := B21.ext l42
          have B28 := B28.ext l42
          have o21 := o21.ext l42
          have o23 := o23.ext l42
          have o26 := o26.ext l42
          have o28 := o28.ext l42
          have o37 := o37.ext l42
          refine ps rfl (fun wq hwq => x_loadAgB ag75 rfl (qB28.ext hwq) rfl) ?_
          refine ps rfl (fun wq hwq => x_loadAgB ag70 rfl (qB4.ext hwq) rfl) ?_
          refine pu rfl ?_ (by rintro ⟨_, _, h, _⟩; cases h)
          refine sp (zcall cl55 rfl) (l_toMb _ _ _ _ _ (hq.ext L) (by omega) hbB) ?_
          rintro v42 w43 l44 ⟨p42, bs42, c42, F42, rfl, o42, f42, hm42⟩
          have z_l44 := l44.size
          have L := L.tr l44.up
          have Lq := Lq.tr l44.up
          have B1 := B1.ext l44
          have B4 := B4.ext l44
          have B21 := B21.ext l44
          have B28 := B28.ext l44
          have o21 := o21.ext l44
          have o23 := o23.ext l44
          have o26 := o26.ext l44
          have o28 := o28.ext l44
          have o37 := o37.ext l44
          have hb42 := pl_bound hm42 hbB
          have hn42 := map_len hm42
          have g42 := o42.lt
          refine c_end ⟨rfl, fun h => Lq, ?_⟩
          refine pu rfl ?_ (by rintro ⟨_, _, h, _⟩; cases h)
          refine srb (zcall cl57 rfl) (l_eqMb _ _ _ _ _ _ _ _ _ o28.rd o42.rd (by omega) hb28) (fun h43 w45 l46 => ?_) (fun h43 w45 l46 => ?_)
          · have z_l46 := l46.size
            have L := L.tr l46.up
            have Lq := Lq.tr l46.up
            have B1 := B1.ext l46
            have B4 := B4.ext l46
            have B21 := B21.ext l46
            have B28 := B28.ext l46
            have o21 := o21.ext l46
            have o23 := o23.ext l46
            have o26 := o26.ext l46
            have o28 := o28.ext l46
            have o37 := o37.ext l46
            have o42 := o42.ext l46
            refine c_end ⟨rfl, fun h => Lq, ?_⟩
            refine p0 rfl (x_not rfl) ?_
            refine p_nil (np_normal ?_)
            refine n_then ?_
            refine c_false rfl ?_
            refine c_skipn ?_
            refine n_then ?_
            refine wp_seq ?_
            refine c_reg ?_
            refine s0 (x_assign (v := .bool _) rfl) ?_
            refine c_end ?_
            refine n_then ?_
            refine wp_ret ?_
            refine f_ret rfl rfl ?_
            exact ⟨rfl, L⟩
          · exact (h43 ⟨rfl, hm28.trans hm42.symm⟩).elim
        · exact (h38 ⟨rfl, hm26.trans hm37.symm⟩).elim

end Go.Proofs.Ytglepnbcplldeaa
