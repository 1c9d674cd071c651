/- What each function of this part returns, for every argument that meets its premises. -/
import Derived.Test.YtdnckakaoageoaaProg
import Derived.Test.YtdnckakaoageoaaVSxF
import Derived.Test.YtdnckakaoageoaaVPlV
import Derived.Test.YtdnckakaoageoaaVF2
import Derived.Test.YtdnckakaoageoaaVF5
import Derived.Test.YtdnckakaoageoaaVF7
import Derived.Test.YtdnckakaoageoaaVFC
import Derived.Test.YtdnckakaoageoaaVFN
import Derived.Test.YtdnckakaoageoaaVFS
namespace Go.Proofs.Ytdnckakaoageoaa
open Go.Sx Go.Pl Go.RowKit
theorem ag42GS : Ag Try.prog 42 2 := ⟨⟨_, Try.underlying42⟩, by kernel_rfl⟩
theorem bd42GS : Built Try.prog 42 [.string .empty, .int .i64 0] #[(0, 1), (1, 1)] := ⟨_, Try.underlying42, by unfold ZeroV; kernel_rfl, fun w => by kernel_rfl⟩
theorem cl24GS : Callable Try.prog 24 := callable Try.func24 (by kernel_rfl) rfl
theorem cl25GS : Callable Try.prog 25 := callable Try.func25 (by kernel_rfl) rfl
theorem cl26GS : Callable Try.prog 26 := callable Try.func26 (by kernel_rfl) rfl
theorem cl27GS : Callable Try.prog 27 := callable Try.func27 (by kernel_rfl) rfl
theorem cl28GS : Callable Try.prog 28 := callable Try.func28 (by kernel_rfl) rfl
theorem cl29GS : Callable Try.prog 29 := callable Try.func29 (by kernel_rfl) rfl
theorem cl30GS : Callable Try.prog 30 := callable Try.func30 (by kernel_rfl) rfl
theorem cl31GS : Callable Try.prog 31 := callable Try.func31 (by kernel_rfl) rfl
theorem cl32GS : Callable Try.prog 32 := callable Try.func32 (by kernel_rfl) rfl
theorem cl33GS : Callable Try.prog 33 := callable Try.func33 (by kernel_rfl) rfl
theorem cl34GS : Callable Try.prog 34 := callable Try.func34 (by kernel_rfl) rfl
theorem sc3GS : Sc Try.prog 3 := ⟨(.int .i64), by kernel_rfl, trivial⟩
theorem so22GS : SliceOf Try.prog 22 3 1 8 := ⟨by kernel_rfl, by kernel_rfl⟩
theorem sz42GS : Sz Try.prog 42 2 := by unfold Sz; kernel_rfl
theorem un22GS : Try.prog.underlying 22 = some (.slice 3) := by kernel_rfl
theorem un4GS : Try.prog.underlying 4 = some .bool := by kernel_rfl
theorem zr42GS : ZeroV Try.prog 42 [.string .empty, .int .i64 0] := by unfold ZeroV; kernel_rfl
set_option maxRecDepth 4000 in
/-- laws.FnPuts -/
theorem l_fnPuts (p : Option Addr) (xs : List Int) (c : Nat) (B : Nat) (w : World) (hp : Sl w p xs.length c 1 (bc xs)) (hr : ∀ x ∈ xs, 0 ≤ x ∧ x ≤ 255) (hpB : Bl p xs.length B) (hB : B ≤ w.heap.size) :
    Calls Try.prog 4 [.slice p xs.length c].toArray w (Ret w (.bool true)) := by
  have L : Exm [] w w := Exm.rfl'
  refine enter (n := 109) Try.func4 rfl rfl rfl ?_
  refine wp_seq ?_
  refine c_reg ?_
  refine s0 (x_assign (v := .bool _) rfl) ?_
  refine c_end ?_
  refine n_then ?_
  refine wp_seq ?_
  refine wp_seq ?_
  refine c_reg ?_
  refine s0 (x_move (v := .slice _ _ _) rfl) ?_
  refine srb (zcall cl24GS rfl) (l_big _ _ _ _) (fun h16 w1 l2 => ?_) (fun h16 w1 l2 => ?_)
  · have z_l2 := l2.size
    have L := L.tr l2.up
    refine c_end ?_
    refine n_then ?_
    refine c_true rfl ?_
    refine wp_seq ?_
    refine c_reg ?_
    refine s0 (x_assign (v := .bool _) rfl) ?_
    refine c_end ?_
    refine n_then ?_
    refine wp_ret (r_then ?_)
    refine f_ret rfl rfl ?_
    exact ⟨rfl, L⟩
  · have z_l2 := l2.size
    have L := L.tr l2.up
    refine c_end ?_
    refine n_then ?_
    refine c_false rfl ?_
    refine c_skipn ?_
    refine n_then ?_
    refine wp_seq ?_
    have hl : xs.length ≤ 1048576 := by omega
    refine c_reg ?_
    refine s0 (x_move (v := .slice _ _ _) rfl) ?_
    refine sp (zcall cl25GS rfl) (s_drawPutBits _ _ _ _ _ (hp.ext L) hr hpB (by omega) (by omega)) ?_
    rintro v19 w3 l4 ⟨p19, n19, xs19, c19, F19, a19, m19, rfl, o19, f19, rfl, hx19, hn19⟩
    have z_l4 := l4.size
    have L := L.tr l4.up
    have g19 := o19.lt
    refine s0 (x_move (v := .tuple _) rfl) ?_
    refine s0 (x_extract rfl rfl) ?_
    refine s0 (x_extract rfl rfl) ?_
    refine s0 (x_extract rfl rfl) ?_
    refine s0 (x_assign (v := .slice _ _ _) rfl) ?_
    refine s0 (x_assign (v := .int _ _) rfl) ?_
    refine s0 (x_assign (v := .int _ _) rfl) ?_
    refine c_end ?_
    refine n_then ?_
    refine wp_seq ?_
    have hpl := putB_len xs19 a19 m19
    refine c_reg ?_
    refine s0 (x_move (v := .slice _ _ _) rfl) ?_
    refine s0 (x_move (v := .int _ _) rfl) ?_
    refine s0 (x_move (v := .int _ _) rfl) ?_
    refine sp (zcall cl26GS rfl) (i_putBits _ _ _ _ _ _ o19.sl (by omega) (by omega)) ?_
    rintro v27 w5 l6 ⟨p27, c27, F27, rfl, o27, f27⟩
    have z_l6 := l6.size
    have L := L.tr l6.up
    have o19 := o19.ext l6
    have g27 := o27.lt
    refine s0 (x_move (v := .tuple _) rfl) ?_
    refine s0 (x_extract rfl rfl) ?_
    refine sb (x_extract rfl rfl) (fun h29 => ?_) (fun h29 => ?_)
    · refine s0 (x_assign (v := .slice _ _ _) rfl) ?_
      refine s0 (x_assign (v := .bool _) rfl) ?_
      refine c_end ?_
      refine n_then ?_
      refine wp_seq ?_
      refine c_reg ?_
      refine s0 (x_move (v := .slice _ _ _) rfl) ?_
      refine s0 (x_move (v := .int _ _) rfl) ?_
      refine s0 (x_move (v := .int _ _) rfl) ?_
      refine sp (zcall cl27GS rfl) (s_putBits _ _ _ _ _ _ o19.sl (by omega) (by omega)) ?_
      rintro v34 w7 l8 ⟨p34, c34, F34, rfl, o34, f34⟩
      have z_l8 := l8.size
      have L := L.tr l8.up
      have o19 := o19.ext l8
      have o27 := o27.ext l8
      have g34 := o34.lt
      refine s0 (x_move (v := .tuple _) rfl) ?_
      refine s0 (x_extract rfl rfl) ?_
      refine s0 (x_extract rfl rfl) ?_
      refine s0 (x_assign (v := .slice _ _ _) rfl) ?_
      refine s0 (x_assign (v := .bool _) rfl) ?_
      refine c_end ?_
      refine n_then ?_
      refine wp_seq ?_
      refine wp_seq ?_
      refine c_reg ?_
      refine s0 (x_move (v := .bool _) rfl) ?_
      refine s0 (x_move (v := .bool _) rfl) ?_
      refine sb (x_neqb un4GS rfl rfl) (fun h39 => ?_) (fun h39 => ?_)
      · exact (h39 (by simp [h29])).elim
      · refine s0 (x_move (v := .bool _) rfl) ?_
        refine gt rfl rfl rfl rfl ?_
        refine s0 (x_move (v := .slice _ _ _) rfl) ?_
        refine gt rfl rfl rfl rfl ?_
        refine s0 (x_move (v := .slice _ _ _) rfl) ?_
        refine gt rfl rfl rfl rfl ?_
        refine srb (zcall cl28GS rfl) (l_sameInts _ _ _ _ _ _ _ o27.sl o34.sl (by omega)) (fun h43 w9 l10 => ?_) (fun h43 w9 l10 => ?_)
        · have z_l10 := l10.size
          have L := L.tr l10.up
          have o19 := o19.ext l10
          have o27 := o27.ext l10
          have o34 := o34.ext l10
          refine gt rfl rfl rfl rfl ?_
          refine s0 (x_not rfl) ?_
          refine s0 (x_pickf (v := .bool _) rfl rfl) ?_
          refine c_end ?_
          refine n_then ?_
          refine c_false rfl ?_
          refine c_skipn ?_
          refine n_then ?_
          refine wp_seq ?_
          refine c_reg ?_
          refine s0 (x_move (v := .slice _ _ _) rfl) ?_
          refine sr (zcall cl29GS rfl) (i_stopped _ _ _ _ o27.sl (by omega)) ?_
          intro w11 l12
          have z_l12 := l12.size
          have L := L.tr l12.up
          have o19 := o19.ext l12
          have o27 := o27.ext l12
          have o34 := o34.ext l12
          refine s0 (x_assign (v := .string _) rfl) ?_
          refine c_end ?_
          refine n_then ?_
          refine wp_seq ?_
          refine wp_seq ?_
          have hss := stopped_size (putB xs19 a19 m19)
          refine c_reg ?_
          refine s0 (x_move (v := .string _) rfl) ?_
          refine sb (x_eqls rfl rfl) (fun h49 => ?_) (fun h49 => ?_)
          · refine c_end ?_
            refine n_then ?_
            refine c_true rfl ?_
            refine wp_seq ?_
            refine c_reg ?_
            refine s0 (x_move (v := .slice _ _ _) rfl) ?_
            refine sr (zcall cl30GS rfl) (s_stopped _ _ _ _ o27.sl (by omega)) ?_
            intro w13 l14
            have z_l14 := l14.size
            have L := L.tr l14.up
            have o19 := o19.ext l14
            have o27 := o27.ext l14
            have o34 := o34.ext l14
            refine s0 (x_eqls rfl rfl) ?_
            refine s0 (x_assign (v := .bool _) rfl) ?_
            refine c_end ?_
            refine n_then ?_
            refine wp_ret (r_then ?_)
            refine f_ret rfl rfl ?_
            exact ⟨ret_bt h49, L⟩
          · refine c_end ?_
            refine n_then ?_
            refine c_false rfl ?_
            refine c_skipn ?_
            refine n_then ?_
            refine wp_seq ?_
            refine wp_seq ?_
            have hib := stopped_ne h49
            have hse := stop_end hib
            refine c_reg ?_
            refine s0 (x_move (v := .bool _) rfl) ?_
            refine c_end ?_
            refine n_then ?_
            refine c_true rfl ?_
            refine wp_seq ?_
            have hrd := put_read h29 hib
            refine c_reg ?_
            refine s0 (x_move (v := .string _) rfl) ?_
            refine s0 (x_move (v := .slice _ _ _) rfl) ?_
            refine s0 (x_lensl un22GS rfl) ?_
            refine s0 (x_build (cs := [.string _, .int _ _]) bd42GS (pts_cons (v := .string _) rfl (pts_cons (v := .int _ _) rfl pts_nil)) rfl) ?_
            refine s0 (x_move (v := .int _ _) rfl) ?_
            refine sr (zcall cl31GS rfl) (i_readBits _ _ _ _ (by omega)) ?_
            intro w15 l16
            have z_l16 := l16.size
            have L := L.tr l16.up
            have o19 := o19.ext l16
            have o27 := o27.ext l16
            have o34 := o34.ext l16
            refine s0 (x_move (v := .tuple _) rfl) ?_
            refine s0 (x_extract rfl rfl) ?_
            refine s0 (x_extract rfl rfl) ?_
            refine sb (x_extract rfl rfl) (fun h63 => ?_) (fun h63 => ?_)
            · refine s_alloc zr42GS ?_
              intro b17 w18 lob17 hib17 l19 B17
              have z_l19 := l19.size
              have L := L.tr l19.up
              have o19 := o19.ext l19
              have o27 := o27.ext l19
              have o34 := o34.ext l19
              refine s_storeAg rfl sz42GS rfl rfl B17 rfl rfl rfl ?_
              intro w20 l21 el21 B17
              have z_l21 := l21.size
              have L := L.fresh l21 (by omega)
              have o19 := o19.ne l21 (by first | assumption | exact nin_of f19 g19 (by omega))
              have o27 := o27.ne l21 (by first | assumption | exact nin_of f27 g27 (by omega))
              have o34 := o34.ne l21 (by first | assumption | exact nin_of f34 g34 (by omega))
              refine s0 (x_assign (v := .int _ _) rfl) ?_
              refine s0 (x_assign (v := .bool _) rfl) ?_
              refine c_end ?_
              refine n_then ?_
              refine wp_seq ?_
              refine c_reg ?_
              refine s0 (x_move (v := .bool _) rfl) ?_
              refine s0 (x_not rfl) ?_
              refine s0 (x_move (v := .bool _) rfl) ?_
              refine gt rfl rfl rfl rfl ?_
              refine s0 (x_move (v := .int _ _) rfl) ?_
              refine gt rfl rfl rfl rfl ?_
              refine s0 (x_move (v := .int _ _) rfl) ?_
              refine gt rfl rfl rfl rfl ?_
              refine sb (x_neq rfl rfl) (fun h69 => ?_) (fun h69 => ?_)
              · exact absurd hrd.2 h69
              · refine s0 (x_pickf (v := .bool _) rfl rfl) ?_
                refine c_end ?_
                refine n_then ?_
                refine c_false rfl ?_
                refine c_skipn ?_
                refine n_then ?_
                refine wp_seq ?_
                refine c_reg ?_
                refine s0 (x_move (v := .slice _ _ _) rfl) ?_
                refine sp (zcall cl32GS rfl) (s_drawStopOk _ _ _ _ _ (hp.ext L) hr hpB (by omega) (by omega)) ?_
                rintro v72 w22 l23 ⟨s72, a72, rfl, hx72⟩
                have z_l23 := l23.size
                have L := L.tr l23.up
                have B17 := B17.ext l23
                have o19 := o19.ext l23
                have o27 := o27.ext l23
                have o34 := o34.ext l23
                refine s_alloc zr42GS ?_
                intro b24 w25 lob24 hib24 l26 B24
                have z_l26 := l26.size
                have L := L.tr l26.up
                have B17 := B17.ext l26
                have o19 := o19.ext l26
                have o27 := o27.ext l26
                have o34 := o34.ext l26
                refine s_storeAg rfl sz42GS rfl rfl B24 rfl rfl rfl ?_
                intro w27 l28 el28 B24
                have z_l28 := l28.size
                have L := L.fresh l28 (by omega)
                have B17 := B17.ne l28 (by omega)
                have o19 := o19.ne l28 (by first | assumption | exact nin_of f19 g19 (by omega))
                have o27 := o27.ne l28 (by first | assumption | exact nin_of f27 g27 (by omega))
                have o34 := o34.ne l28 (by first | assumption | exact nin_of f34 g34 (by omega))
                refine c_end ?_
                refine n_then ?_
                refine wp_seq ?_
                refine c_plan (fun wq => Exm [] w27 wq) 37 (.cons (0, 2) (.cons (1, 2) (.cons (2, 2) (.cons (3, 2) (.cons (4, 0) (.cons (5, 2) (.cons (6, 2) (.cons (7, 1) (.cons (9, 1) (.cons (8, 0) (.cons (10, 0) (.cons (11, 2) (.cons (12, 2) (.cons (13, 2) (.cons (14, 2) (.cons (15, 2) (.cons (16, 2) (.cons (17, 2) (.cons (18, 2) (.cons (19, 2) (.cons (20, 2) (.cons (21, 2) (.cons (22, 2) (.cons (23, 0) (.cons (24, 2) (.cons (25, 2) (.cons (26, 2) (.cons (27, 2) (.cons (28, 2) (.cons (29, 2) (.cons (30, 2) (.cons (31, 2) (.cons (32, 1) (.cons (33, 2) (.cons (34, 2) (.cons (35, 2) (.cons (36, 2) .nil))))))))))))))))))))))))))))))))))))) (by kernel_rfl) (by kernel_rfl) (Exm.drew _) ?_
                obtain ⟨w29, hwd⟩ : ∃ x, x = w27.drew := ⟨_, rfl⟩
                have l30 : Ext w27 w29 := by rw [hwd]; exact Exm.drew _
                rw [← hwd]; clear hwd
                have Lq : Exm [] w27 w29 := l30.up
                have qB17 := B17
                have qB24 := B24
                have qo19 := o19
                have qo27 := o27
                have qo34 := o34
                have qL := L
                have z_l30 := l30.size
                have L := L.tr l30.up
                have B17 := B17.ext l30
                have B24 := B24.ext l30
                have o19 := o19.ext l30
                have o27 := o27.ext l30
                have o34 := o34.ext l30
                refine p0 rfl (x_move (v := .string _) rfl) ?_
                refine p0 rfl (x_move (v := .slice _ _ _) rfl) ?_
                refine p0 rfl (x_lensl un22GS rfl) ?_
                refine p0 rfl (x_build (cs := [.string _, .int _ _]) bd42GS (pts_cons (v := .string _) rfl (pts_cons (v := .int _ _) rfl pts_nil)) rfl) ?_
                refine pu rfl ?_ (by rintro ⟨_, _, h, _⟩; cases h)
                refine sr (zcall cl33GS rfl) (i_stop _ _ _ (by omega)) ?_
                intro w31 l32
                have z_l32 := l32.size
                have L := L.tr l32.up
                have Lq := Lq.tr l32.up
                have B17 := B17.ext l32
                have B24 := B24.ext l32
                have o19 := o19.ext l32
                have o27 := o27.ext l32
                have o34 := o34.ext l32
                refine c_end ⟨rfl, fun h hS => Lq, ?_⟩
                refine pb rfl (x_eql rfl rfl) (fun h78 => ?_) (fun h78 => ?_)
                · refine p0 rfl (x_move (v := .bool _) rfl) ?_
                  refine psg rfl rfl rfl rfl rfl (fun wq hwq => x_loadAgB ag42GS rfl (qB24.ext hwq) rfl) ?_
                  refine psg rfl rfl rfl rfl rfl (fun wq hwq => x_loadAgB ag42GS rfl (qB24.ext hwq) rfl) ?_
                  refine pu rfl ?_ (by rintro ⟨_, _, h, _⟩; cases h)
                  refine gt rfl rfl rfl rfl ?_
                  refine sr (zcall cl33GS rfl) (i_stop _ _ _ (by omega)) ?_
                  intro w33 l34
                  have z_l34 := l34.size
                  have L := L.tr l34.up
                  have Lq := Lq.tr l34.up
                  have B17 := B17.ext l34
                  have B24 := B24.ext l34
                  have o19 := o19.ext l34
                  have o27 := o27.ext l34
                  have o34 := o34.ext l34
                  refine c_end ⟨rfl, fun h hS => Lq, ?_⟩
                  refine pu rfl ?_ (by rintro ⟨_, _, h, _⟩; cases h)
                  refine gt rfl rfl rfl rfl ?_
                  refine sr (zcall cl34GS rfl) (s_stop _ _ _ (by omega)) ?_
                  intro w35 l36
                  have z_l36 := l36.size
                  have L := L.tr l36.up
                  have Lq := Lq.tr l36.up
                  have B17 := B17.ext l36
                  have B24 := B24.ext l36
                  have o19 := o19.ext l36
                  have o27 := o27.ext l36
                  have o34 := o34.ext l36
                  refine c_end ⟨rfl, fun h hS => Lq, ?_⟩
                  refine pbg rfl rfl rfl rfl rfl (x_eql rfl rfl) (fun h84 => ?_) (fun h84 => ?_)
                  · refine p0 rfl (x_pickt (v := .bool _) rfl rfl) ?_
                    refine p0 rfl (x_move (v := .bool _) rfl) ?_
                    refine p0g rfl rfl rfl rfl rfl (x_move (v := .slice _ _ _) rfl) ?_
                    refine p0g rfl rfl rfl rfl rfl (x_lensl un22GS rfl) ?_
                    refine pbg rfl rfl rfl rfl rfl (x_eql rfl rfl) (fun h89 => ?_) (fun h89 => ?_)
                    · refine p0g rfl rfl rfl rfl rfl (x_move (v := .bool _) rfl) ?_
                      refine pf rfl rfl rfl rfl rfl ?_
                      refine pf rfl rfl rfl rfl rfl ?_
                      refine pf rfl rfl rfl rfl rfl ?_
                      refine pf rfl rfl rfl rfl rfl ?_
                      refine pf rfl rfl rfl rfl rfl ?_
                      refine pu rfl ?_ (by rintro ⟨_, _, h, _⟩; cases h)
                      refine gf rfl rfl rfl rfl ?_
                      refine c_end ⟨rfl, fun h hS => Lq, ?_⟩
                      refine pf rfl rfl rfl rfl rfl ?_
                      refine p0g rfl rfl rfl rfl rfl (x_pickt (v := .bool _) rfl rfl) ?_
                      refine p0g rfl rfl rfl rfl rfl (x_move (v := .bool _) rfl) ?_
                      refine pf rfl rfl rfl rfl rfl ?_
                      refine pf rfl rfl rfl rfl rfl ?_
                      refine pf rfl rfl rfl rfl rfl ?_
                      refine pf rfl rfl rfl rfl rfl ?_
                      refine pf rfl rfl rfl rfl rfl ?_
                      refine pf1 rfl rfl rfl rfl rfl ?_
                      refine pf rfl rfl rfl rfl rfl ?_
                      refine p0g rfl rfl rfl rfl rfl (x_pickt (v := .bool _) rfl rfl) ?_
                      refine p0 rfl (x_pickt (v := .bool _) rfl rfl) ?_
                      refine p0 rfl (x_assign (v := .bool _) rfl) ?_
                      refine p_nil (np_normal ?_)
                      refine n_then ?_
                      refine wp_ret ?_
                      refine f_ret rfl rfl ?_
                      exact ⟨rfl, L⟩
                    · refine p0g rfl rfl rfl rfl rfl (x_move (v := .bool _) rfl) ?_
                      refine p0g rfl rfl rfl rfl rfl (x_move (v := .string _) rfl) ?_
                      refine p0g rfl rfl rfl rfl rfl (x_move (v := .slice _ _ _) rfl) ?_
                      refine p0g rfl rfl rfl rfl rfl (x_lensl un22GS rfl) ?_
                      refine p0g rfl rfl rfl rfl rfl (x_sub rfl rfl (by omega)) ?_
                      refine p0g rfl rfl rfl rfl rfl (x_build (cs := [.string _, .int _ _]) bd42GS (pts_cons (v := .string _) rfl (pts_cons (v := .int _ _) rfl pts_nil)) rfl) ?_
                      refine pu rfl ?_ (by rintro ⟨_, _, h, _⟩; cases h)
                      refine gt rfl rfl rfl rfl ?_
                      refine sr (zcall cl33GS rfl) (i_stop _ _ _ (by omega)) ?_
                      intro w37 l38
                      have z_l38 := l38.size
                      have L := L.tr l38.up
                      have Lq := Lq.tr l38.up
                      have B17 := B17.ext l38
                      have B24 := B24.ext l38
                      have o19 := o19.ext l38
                      have o27 := o27.ext l38
                      have o34 := o34.ext l38
                      refine c_end ⟨rfl, fun h hS => Lq, ?_⟩
                      refine pbg rfl rfl rfl rfl rfl (x_neq rfl rfl) (fun h97 => ?_) (fun h97 => ?_)
                      · refine p0g rfl rfl rfl rfl rfl (x_pickf (v := .bool _) rfl rfl) ?_
                        refine p0g rfl rfl rfl rfl rfl (x_move (v := .bool _) rfl) ?_
                        refine pf rfl rfl rfl rfl rfl ?_
                        refine pf rfl rfl rfl rfl rfl ?_
                        refine pf rfl rfl rfl rfl rfl ?_
                        refine pf rfl rfl rfl rfl rfl ?_
                        refine pf rfl rfl rfl rfl rfl ?_
                        refine pf1 rfl rfl rfl rfl rfl ?_
                        refine pf rfl rfl rfl rfl rfl ?_
                        refine p0g rfl rfl rfl rfl rfl (x_pickt (v := .bool _) rfl rfl) ?_
                        refine p0 rfl (x_pickt (v := .bool _) rfl rfl) ?_
                        refine p0 rfl (x_assign (v := .bool _) rfl) ?_
                        refine p_nil (np_normal ?_)
                        refine n_then ?_
                        refine wp_ret ?_
                        refine f_ret rfl rfl ?_
                        exact ⟨rfl, L⟩
                      · refine p0g rfl rfl rfl rfl rfl (x_pickf (v := .bool _) rfl rfl) ?_
                        refine p0g rfl rfl rfl rfl rfl (x_move (v := .bool _) rfl) ?_
                        refine p0g rfl rfl rfl rfl rfl (x_move (v := .slice _ _ _) rfl) ?_
                        refine p0g rfl rfl rfl rfl rfl (x_move (v := .slice _ _ _) rfl) ?_
                        refine p0g rfl rfl rfl rfl rfl (x_lensl un22GS rfl) ?_
                        refine p0g rfl rfl rfl rfl rfl (x_sub rfl rfl (by omega)) ?_
                        refine p0g rfl rfl rfl rfl rfl (x_idx so22GS rfl rfl o27.sl (by decide) (by omega) (by omega)) ?_
                        refine psg rfl rfl rfl rfl rfl (fun wq hwq => x_ldi sc3GS rfl (qo27.ext hwq).sl (by omega) (by omega)) ?_
                        refine p0g rfl rfl rfl rfl rfl (x_eql rfl rfl) ?_
                        refine p0g rfl rfl rfl rfl rfl (x_pickf (v := .bool _) rfl rfl) ?_
                        refine p0 rfl (x_pickt (v := .bool _) rfl rfl) ?_
                        refine p0 rfl (x_assign (v := .bool _) rfl) ?_
                        refine p_nil (np_normal ?_)
                        refine n_then ?_
                        refine wp_ret ?_
                        refine f_ret rfl rfl ?_
                        have hlast : (putB xs19 a19 m19).getD ((((putB xs19 a19 m19).length : Int) - 1).toNat) 0 = 1 := by rw [show (((putB xs19 a19 m19).length : Int) - 1).toNat = (putB xs19 a19 m19).length - 1 by omega]; exact (stop_back hib (by omega)).resolve_left h97
                        exact ⟨ret_bt hlast, L⟩
                  · exact absurd rfl h84
                · exact absurd hse h78
            · exact absurd hrd.1 h63
        · exact absurd rfl h43
    · refine s0 (x_assign (v := .slice _ _ _) rfl) ?_
      refine s0 (x_assign (v := .bool _) rfl) ?_
      refine c_end ?_
      refine n_then ?_
      refine wp_seq ?_
      refine c_reg ?_
      refine s0 (x_move (v := .slice _ _ _) rfl) ?_
      refine s0 (x_move (v := .int _ _) rfl) ?_
      refine s0 (x_move (v := .int _ _) rfl) ?_
      refine sp (zcall cl27GS rfl) (s_putBits _ _ _ _ _ _ o19.sl (by omega) (by omega)) ?_
      rintro v34 w39 l40 ⟨p34, c34, F34, rfl, o34, f34⟩
      have z_l40 := l40.size
      have L := L.tr l40.up
      have o19 := o19.ext l40
      have o27 := o27.ext l40
      have g34 := o34.lt
      refine s0 (x_move (v := .tuple _) rfl) ?_
      refine s0 (x_extract rfl rfl) ?_
      refine s0 (x_extract rfl rfl) ?_
      refine s0 (x_assign (v := .slice _ _ _) rfl) ?_
      refine s0 (x_assign (v := .bool _) rfl) ?_
      refine c_end ?_
      refine n_then ?_
      refine wp_seq ?_
      refine wp_seq ?_
      refine c_reg ?_
      refine s0 (x_move (v := .bool _) rfl) ?_
      refine s0 (x_move (v := .bool _) rfl) ?_
      refine sb (x_neqb un4GS rfl rfl) (fun h39 => ?_) (fun h39 => ?_)
      · exact (h39 (by simp [h29])).elim
      · refine s0 (x_move (v := .bool _) rfl) ?_
        refine gt rfl rfl rfl rfl ?_
        refine s0 (x_move (v := .slice _ _ _) rfl) ?_
        refine gt rfl rfl rfl rfl ?_
        refine s0 (x_move (v := .slice _ _ _) rfl) ?_
        refine gt rfl rfl rfl rfl ?_
        refine srb (zcall cl28GS rfl) (l_sameInts _ _ _ _ _ _ _ o27.sl o34.sl (by omega)) (fun h43 w41 l42 => ?_) (fun h43 w41 l42 => ?_)
        · have z_l42 := l42.size
          have L := L.tr l42.up
          have o19 := o19.ext l42
          have o27 := o27.ext l42
          have o34 := o34.ext l42
          refine gt rfl rfl rfl rfl ?_
          refine s0 (x_not rfl) ?_
          refine s0 (x_pickf (v := .bool _) rfl rfl) ?_
          refine c_end ?_
          refine n_then ?_
          refine c_false rfl ?_
          refine c_skipn ?_
          refine n_then ?_
          refine wp_seq ?_
          refine c_reg ?_
          refine s0 (x_move (v := .slice _ _ _) rfl) ?_
          refine sr (zcall cl29GS rfl) (i_stopped _ _ _ _ o27.sl (by omega)) ?_
          intro w43 l44
          have z_l44 := l44.size
          have L := L.tr l44.up
          have o19 := o19.ext l44
          have o27 := o27.ext l44
          have o34 := o34.ext l44
          refine s0 (x_assign (v := .string _) rfl) ?_
          refine c_end ?_
          refine n_then ?_
          refine wp_seq ?_
          refine wp_seq ?_
          have hss := stopped_size (putB xs19 a19 m19)
          refine c_reg ?_
          refine s0 (x_move (v := .string _) rfl) ?_
          refine sb (x_eqls rfl rfl) (fun h49 => ?_) (fun h49 => ?_)
          · refine c_end ?_
            refine n_then ?_
            refine c_true rfl ?_
            refine wp_seq ?_
            refine c_reg ?_
            refine s0 (x_move (v := .slice _ _ _) rfl) ?_
            refine sr (zcall cl30GS rfl) (s_stopped _ _ _ _ o27.sl (by omega)) ?_
            intro w45 l46
            have z_l46 := l46.size
            have L := L.tr l46.up
            have o19 := o19.ext l46
            have o27 := o27.ext l46
            have o34 := o34.ext l46
            refine s0 (x_eqls rfl rfl) ?_
            refine s0 (x_assign (v := .bool _) rfl) ?_
            refine c_end ?_
            refine n_then ?_
            refine wp_ret (r_then ?_)
            refine f_ret rfl rfl ?_
            exact ⟨ret_bt h49, L⟩
          · refine c_end ?_
            refine n_then ?_
            refine c_false rfl ?_
            refine c_skipn ?_
            refine n_then ?_
            refine wp_seq ?_
            refine wp_seq ?_
            have hib := stopped_ne h49
            have hse := stop_end hib
            refine c_reg ?_
            refine s0 (x_move (v := .bool _) rfl) ?_
            refine c_end ?_
            refine n_then ?_
            refine c_false rfl ?_
            refine c_skipn ?_
            refine n_then ?_
            refine wp_seq ?_
            refine c_reg ?_
            refine s0 (x_move (v := .slice _ _ _) rfl) ?_
            refine sp (zcall cl32GS rfl) (s_drawStopOk _ _ _ _ _ (hp.ext L) hr hpB (by omega) (by omega)) ?_
            rintro v72 w47 l48 ⟨s72, a72, rfl, hx72⟩
            have z_l48 := l48.size
            have L := L.tr l48.up
            have o19 := o19.ext l48
            have o27 := o27.ext l48
            have o34 := o34.ext l48
            refine s_alloc zr42GS ?_
            intro b49 w50 lob49 hib49 l51 B49
            have z_l51 := l51.size
            have L := L.tr l51.up
            have o19 := o19.ext l51
            have o27 := o27.ext l51
            have o34 := o34.ext l51
            refine s_storeAg rfl sz42GS rfl rfl B49 rfl rfl rfl ?_
            intro w52 l53 el53 B49
            have z_l53 := l53.size
            have L := L.fresh l53 (by omega)
            have o19 := o19.ne l53 (by first | assumption | exact nin_of f19 g19 (by omega))
            have o27 := o27.ne l53 (by first | assumption | exact nin_of f27 g27 (by omega))
            have o34 := o34.ne l53 (by first | assumption | exact nin_of f34 g34 (by omega))
            refine c_end ?_
            refine n_then ?_
            refine wp_seq ?_
            refine c_plan (fun wq => Exm [] w52 wq) 37 (.cons (0, 2) (.cons (1, 2) (.cons (2, 2) (.cons (3, 2) (.cons (4, 0) (.cons (5, 2) (.cons (6, 2) (.cons (7, 1) (.cons (9, 1) (.cons (8, 0) (.cons (10, 0) (.cons (11, 2) (.cons (12, 2) (.cons (13, 2) (.cons (14, 2) (.cons (15, 2) (.cons (16, 2) (.cons (17, 2) (.cons (18, 2) (.cons (19, 2) (.cons (20, 2) (.cons (21, 2) (.cons (22, 2) (.cons (23, 0) (.cons (24, 2) (.cons (25, 2) (.cons (26, 2) (.cons (27, 2) (.cons (28, 2) (.cons (29, 2) (.cons (30, 2) (.cons (31, 2) (.cons (32, 1) (.cons (33, 2) (.cons (34, 2) (.cons (35, 2) (.cons (36, 2) .nil))))))))))))))))))))))))))))))))))))) (by kernel_rfl) (by kernel_rfl) (Exm.drew _) ?_
            obtain ⟨w54, hwd⟩ : ∃ x, x = w52.drew := ⟨_, rfl⟩
            have l55 : Ext w52 w54 := by rw [hwd]; exact Exm.drew _
            rw [← hwd]; clear hwd
            have Lq : Exm [] w52 w54 := l55.up
            have qB49 := B49
            have qo19 := o19
            have qo27 := o27
            have qo34 := o34
            have qL := L
            have z_l55 := l55.size
            have L := L.tr l55.up
            have B49 := B49.ext l55
            have o19 := o19.ext l55
            have o27 := o27.ext l55
            have o34 := o34.ext l55
            refine p0 rfl (x_move (v := .string _) rfl) ?_
            refine p0 rfl (x_move (v := .slice _ _ _) rfl) ?_
            refine p0 rfl (x_lensl un22GS rfl) ?_
            refine p0 rfl (x_build (cs := [.string _, .int _ _]) bd42GS (pts_cons (v := .string _) rfl (pts_cons (v := .int _ _) rfl pts_nil)) rfl) ?_
            refine pu rfl ?_ (by rintro ⟨_, _, h, _⟩; cases h)
            refine sr (zcall cl33GS rfl) (i_stop _ _ _ (by omega)) ?_
            intro w56 l57
            have z_l57 := l57.size
            have L := L.tr l57.up
            have Lq := Lq.tr l57.up
            have B49 := B49.ext l57
            have o19 := o19.ext l57
            have o27 := o27.ext l57
            have o34 := o34.ext l57
            refine c_end ⟨rfl, fun h hS => Lq, ?_⟩
            refine pb rfl (x_eql rfl rfl) (fun h78 => ?_) (fun h78 => ?_)
            · refine p0 rfl (x_move (v := .bool _) rfl) ?_
              refine psg rfl rfl rfl rfl rfl (fun wq hwq => x_loadAgB ag42GS rfl (qB49.ext hwq) rfl) ?_
              refine psg rfl rfl rfl rfl rfl (fun wq hwq => x_loadAgB ag42GS rfl (qB49.ext hwq) rfl) ?_
              refine pu rfl ?_ (by rintro ⟨_, _, h, _⟩; cases h)
              refine gt rfl rfl rfl rfl ?_
              refine sr (zcall cl33GS rfl) (i_stop _ _ _ (by omega)) ?_
              intro w58 l59
              have z_l59 := l59.size
              have L := L.tr l59.up
              have Lq := Lq.tr l59.up
              have B49 := B49.ext l59
              have o19 := o19.ext l59
              have o27 := o27.ext l59
              have o34 := o34.ext l59
              refine c_end ⟨rfl, fun h hS => Lq, ?_⟩
              refine pu rfl ?_ (by rintro ⟨_, _, h, _⟩; cases h)
              refine gt rfl rfl rfl rfl ?_
              refine sr (zcall cl34GS rfl) (s_stop _ _ _ (by omega)) ?_
              intro w60 l61
              have z_l61 := l61.size
              have L := L.tr l61.up
              have Lq := Lq.tr l61.up
              have B49 := B49.ext l61
              have o19 := o19.ext l61
              have o27 := o27.ext l61
              have o34 := o34.ext l61
              refine c_end ⟨rfl, fun h hS => Lq, ?_⟩
              refine pbg rfl rfl rfl rfl rfl (x_eql rfl rfl) (fun h84 => ?_) (fun h84 => ?_)
              · refine p0 rfl (x_pickt (v := .bool _) rfl rfl) ?_
                refine p0 rfl (x_move (v := .bool _) rfl) ?_
                refine p0g rfl rfl rfl rfl rfl (x_move (v := .slice _ _ _) rfl) ?_
                refine p0g rfl rfl rfl rfl rfl (x_lensl un22GS rfl) ?_
                refine pbg rfl rfl rfl rfl rfl (x_eql rfl rfl) (fun h89 => ?_) (fun h89 => ?_)
                · refine p0g rfl rfl rfl rfl rfl (x_move (v := .bool _) rfl) ?_
                  refine pf rfl rfl rfl rfl rfl ?_
                  refine pf rfl rfl rfl rfl rfl ?_
                  refine pf rfl rfl rfl rfl rfl ?_
                  refine pf rfl rfl rfl rfl rfl ?_
                  refine pf rfl rfl rfl rfl rfl ?_
                  refine pu rfl ?_ (by rintro ⟨_, _, h, _⟩; cases h)
                  refine gf rfl rfl rfl rfl ?_
                  refine c_end ⟨rfl, fun h hS => Lq, ?_⟩
                  refine pf rfl rfl rfl rfl rfl ?_
                  refine p0g rfl rfl rfl rfl rfl (x_pickt (v := .bool _) rfl rfl) ?_
                  refine p0g rfl rfl rfl rfl rfl (x_move (v := .bool _) rfl) ?_
                  refine pf rfl rfl rfl rfl rfl ?_
                  refine pf rfl rfl rfl rfl rfl ?_
                  refine pf rfl rfl rfl rfl rfl ?_
                  refine pf rfl rfl rfl rfl rfl ?_
                  refine pf rfl rfl rfl rfl rfl ?_
                  refine pf1 rfl rfl rfl rfl rfl ?_
                  refine pf rfl rfl rfl rfl rfl ?_
                  refine p0g rfl rfl rfl rfl rfl (x_pickt (v := .bool _) rfl rfl) ?_
                  refine p0 rfl (x_pickt (v := .bool _) rfl rfl) ?_
                  refine p0 rfl (x_assign (v := .bool _) rfl) ?_
                  refine p_nil (np_normal ?_)
                  refine n_then ?_
                  refine wp_ret ?_
                  refine f_ret rfl rfl ?_
                  exact ⟨rfl, L⟩
                · refine p0g rfl rfl rfl rfl rfl (x_move (v := .bool _) rfl) ?_
                  refine p0g rfl rfl rfl rfl rfl (x_move (v := .string _) rfl) ?_
                  refine p0g rfl rfl rfl rfl rfl (x_move (v := .slice _ _ _) rfl) ?_
                  refine p0g rfl rfl rfl rfl rfl (x_lensl un22GS rfl) ?_
                  refine p0g rfl rfl rfl rfl rfl (x_sub rfl rfl (by omega)) ?_
                  refine p0g rfl rfl rfl rfl rfl (x_build (cs := [.string _, .int _ _]) bd42GS (pts_cons (v := .string _) rfl (pts_cons (v := .int _ _) rfl pts_nil)) rfl) ?_
                  refine pu rfl ?_ (by rintro ⟨_, _, h, _⟩; cases h)
                  refine gt rfl rfl rfl rfl ?_
                  refine sr (zcall cl33GS rfl) (i_stop _ _ _ (by omega)) ?_
                  intro w62 l63
                  have z_l63 := l63.size
                  have L := L.tr l63.up
                  have Lq := Lq.tr l63.up
                  have B49 := B49.ext l63
                  have o19 := o19.ext l63
                  have o27 := o27.ext l63
                  have o34 := o34.ext l63
                  refine c_end ⟨rfl, fun h hS => Lq, ?_⟩
                  refine pbg rfl rfl rfl rfl rfl (x_neq rfl rfl) (fun h97 => ?_) (fun h97 => ?_)
                  · refine p0g rfl rfl rfl rfl rfl (x_pickf (v := .bool _) rfl rfl) ?_
                    refine p0g rfl rfl rfl rfl rfl (x_move (v := .bool _) rfl) ?_
                    refine pf rfl rfl rfl rfl rfl ?_
                    refine pf rfl rfl rfl rfl rfl ?_
                    refine pf rfl rfl rfl rfl rfl ?_
                    refine pf rfl rfl rfl rfl rfl ?_
                    refine pf rfl rfl rfl rfl rfl ?_
                    refine pf1 rfl rfl rfl rfl rfl ?_
                    refine pf rfl rfl rfl rfl rfl ?_
                    refine p0g rfl rfl rfl rfl rfl (x_pickt (v := .bool _) rfl rfl) ?_
                    refine p0 rfl (x_pickt (v := .bool _) rfl rfl) ?_
                    refine p0 rfl (x_assign (v := .bool _) rfl) ?_
                    refine p_nil (np_normal ?_)
                    refine n_then ?_
                    refine wp_ret ?_
                    refine f_ret rfl rfl ?_
                    exact ⟨rfl, L⟩
                  · refine p0g rfl rfl rfl rfl rfl (x_pickf (v := .bool _) rfl rfl) ?_
                    refine p0g rfl rfl rfl rfl rfl (x_move (v := .bool _) rfl) ?_
                    refine p0g rfl rfl rfl rfl rfl (x_move (v := .slice _ _ _) rfl) ?_
                    refine p0g rfl rfl rfl rfl rfl (x_move (v := .slice _ _ _) rfl) ?_
                    refine p0g rfl rfl rfl rfl rfl (x_lensl un22GS rfl) ?_
                    refine p0g rfl rfl rfl rfl rfl (x_sub rfl rfl (by omega)) ?_
                    refine p0g rfl rfl rfl rfl rfl (x_idx so22GS rfl rfl o27.sl (by decide) (by omega) (by omega)) ?_
                    refine psg rfl rfl rfl rfl rfl (fun wq hwq => x_ldi sc3GS rfl (qo27.ext hwq).sl (by omega) (by omega)) ?_
                    refine p0g rfl rfl rfl rfl rfl (x_eql rfl rfl) ?_
                    refine p0g rfl rfl rfl rfl rfl (x_pickf (v := .bool _) rfl rfl) ?_
                    refine p0 rfl (x_pickt (v := .bool _) rfl rfl) ?_
                    refine p0 rfl (x_assign (v := .bool _) rfl) ?_
                    refine p_nil (np_normal ?_)
                    refine n_then ?_
                    refine wp_ret ?_
                    refine f_ret rfl rfl ?_
                    have hlast : (putB xs19 a19 m19).getD ((((putB xs19 a19 m19).length : Int) - 1).toNat) 0 = 1 := by rw [show (((putB xs19 a19 m19).length : Int) - 1).toNat = (putB xs19 a19 m19).length - 1 by omega]; exact (stop_back hib (by omega)).resolve_left h97
                    exact ⟨ret_bt hlast, L⟩
              · exact absurd rfl h84
            · exact absurd hse h78
        · exact absurd rfl h43

end Go.Proofs.Ytdnckakaoageoaa
