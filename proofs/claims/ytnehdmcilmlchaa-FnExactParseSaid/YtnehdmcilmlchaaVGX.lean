/- What each function of this part returns, for every argument that meets its premises. -/
import Derived.Test.YtnehdmcilmlchaaProg
import Derived.Test.YtnehdmcilmlchaaVSxG
import Derived.Test.YtnehdmcilmlchaaVPlU
import Derived.Test.YtnehdmcilmlchaaVFF
import Derived.Test.YtnehdmcilmlchaaVFW
import Derived.Test.YtnehdmcilmlchaaVFX
namespace Go.Proofs.Ytnehdmcilmlchaa
open Go.Sx Go.Pl Go.RowKit
theorem ag85GX : Ag Try.prog 85 7 := ⟨⟨_, Try.underlying85⟩, by kernel_rfl⟩
theorem cl56GX : Callable Try.prog 56 := callable Try.func56 (by kernel_rfl) rfl
theorem cl57GX : Callable Try.prog 57 := callable Try.func57 (by kernel_rfl) rfl
theorem cl58GX : Callable Try.prog 58 := callable Try.func58 (by kernel_rfl) rfl
theorem cl59GX : Callable Try.prog 59 := callable Try.func59 (by kernel_rfl) rfl
theorem cl60GX : Callable Try.prog 60 := callable Try.func60 (by kernel_rfl) rfl
theorem sz85GX : Sz Try.prog 85 7 := by unfold Sz; kernel_rfl
theorem un9GX : Try.prog.underlying 9 = some .string := by kernel_rfl
theorem zr85GX : ZeroV Try.prog 85 [.int .i64 0, .int .i64 0, .int .i64 0, .bool false, .bool false, .slice none 0 0, .slice none 0 0] := by unfold ZeroV; kernel_rfl
set_option maxRecDepth 4000 in
/-- laws.FnExactParse -/
theorem l_fnParse (s : ByteArray) (w : World) (hs : s.size ≤ 9223372036854775807) :
    Calls Try.prog 8 [.string s].toArray w (Ret w (.bool true)) := by
  have L : Exm [] w w := Exm.rfl'
  refine enter (n := 82) Try.func8 rfl rfl rfl ?_
  refine wp_seq ?_
  refine c_reg ?_
  refine s0 (x_assign (v := .bool _) rfl) ?_
  refine c_end ?_
  refine n_then ?_
  refine wp_seq ?_
  refine wp_seq ?_
  refine c_reg ?_
  refine s0 (x_move (v := .string _) rfl) ?_
  refine s0 (x_len un9GX rfl) ?_
  refine sb (x_gtr rfl rfl) (fun h16 => ?_) (fun h16 => ?_)
  · refine c_end ?_
    refine n_then ?_
    refine c_true rfl ?_
    refine wp_seq ?_
    refine c_reg ?_
    refine s0 (x_assign (v := .bool _) rfl) ?_
    refine c_end ?_
    refine n_then ?_
    refine wp_ret (r_then ?_)
    refine f_ret rfl rfl ?_
    exact ⟨rfl, L⟩
  · refine c_end ?_
    refine n_then ?_
    refine c_false rfl ?_
    refine c_skipn ?_
    refine n_then ?_
    refine wp_seq ?_
    have hs2 : s.size ≤ 1048576 := by omega
    have hpl := prL_len s
    refine c_reg ?_
    refine s0 (x_move (v := .string _) rfl) ?_
    refine sp (zcall cl56GX rfl) (s_parse _ _ (by omega)) ?_
    rintro v19 w1 l2 ⟨p19, c19, F19, p19m, ms19, c19m, F19m, rfl, o19, f19, o19m, f19m, dj19, hm19⟩
    have z_l2 := l2.size
    have L := L.tr l2.up
    obtain ⟨hl19, hc19, hb19⟩ := pr_small hm19
    have g19 := o19.lt
    have g19m := o19m.lt
    refine s0 (x_move (v := .tuple _) rfl) ?_
    refine s0 (x_extract rfl rfl) ?_
    refine s0 (x_extract rfl rfl) ?_
    refine s0 (x_extract rfl rfl) ?_
    refine s_alloc zr85GX ?_
    intro b3 w4 lob3 hib3 l5 B3
    have z_l5 := l5.size
    have L := L.tr l5.up
    have o19 := o19.ext l5
    have o19m := o19m.ext l5
    refine s_storeAg rfl sz85GX rfl rfl B3 rfl rfl rfl ?_
    intro w6 l7 el7 B3
    have z_l7 := l7.size
    have L := L.fresh l7 (by omega)
    have o19 := o19.ne l7 (by first | assumption | exact nin_of f19 g19 (by omega))
    have o19m := o19m.ne l7 (by first | assumption | exact nin_of f19m g19m (by omega))
    refine s0 (x_assign (v := .int _ _) rfl) ?_
    refine s0 (x_assign (v := .int _ _) rfl) ?_
    refine c_end ?_
    refine n_then ?_
    refine wp_seq ?_
    refine c_reg ?_
    refine s0 (x_move (v := .string _) rfl) ?_
    refine sp (zcall cl57GX rfl) (i_parse _ _ (by omega)) ?_
    rintro v25 w8 l9 ⟨p25, c25, F25, p25m, ms25, c25m, F25m, rfl, o25, f25, o25m, f25m, dj25, hm25⟩
    have z_l9 := l9.size
    have L := L.tr l9.up
    have B3 := B3.ext l9
    have o19 := o19.ext l9
    have o19m := o19m.ext l9
    obtain ⟨hl25, hc25, hb25⟩ := pr_small hm25
    have g25 := o25.lt
    have g25m := o25m.lt
    refine s0 (x_move (v := .tuple _) rfl) ?_
    refine s0 (x_extract rfl rfl) ?_
    refine s0 (x_extract rfl rfl) ?_
    refine s0 (x_extract rfl rfl) ?_
    refine s_alloc zr85GX ?_
    intro b10 w11 lob10 hib10 l12 B10
    have z_l12 := l12.size
    have L := L.tr l12.up
    have B3 := B3.ext l12
    have o19 := o19.ext l12
    have o19m := o19m.ext l12
    have o25 := o25.ext l12
    have o25m := o25m.ext l12
    refine s_storeAg rfl sz85GX rfl rfl B10 rfl rfl rfl ?_
    intro w13 l14 el14 B10
    have z_l14 := l14.size
    have L := L.fresh l14 (by omega)
    have B3 := B3.ne l14 (by omega)
    have o19 := o19.ne l14 (by first | assumption | exact nin_of f19 g19 (by omega))
    have o19m := o19m.ne l14 (by first | assumption | exact nin_of f19m g19m (by omega))
    have o25 := o25.ne l14 (by first | assumption | exact nin_of f25 g25 (by omega))
    have o25m := o25m.ne l14 (by first | assumption | exact nin_of f25m g25m (by omega))
    refine s0 (x_assign (v := .int _ _) rfl) ?_
    refine s0 (x_assign (v := .int _ _) rfl) ?_
    refine c_end ?_
    refine n_then ?_
    refine wp_seq ?_
    refine wp_seq ?_
    refine c_reg ?_
    refine st (x_loadAgB ag85GX rfl B10 rfl) ?_
    refine st (x_loadAgB ag85GX rfl B3 rfl) ?_
    refine srb (zcall cl58GX rfl) (l_eqStream _ _ _ _ _ _ _ _ _ _ _ _ _ _ _ _ _ _ _ _ _ _ _ o25.sl o25m.rdm o19.sl o19m.rdm (by omega) (by omega) hb25) (fun h31 w15 l16 => ?_) (fun h31 w15 l16 => ?_)
    · have z_l16 := l16.size
      have L := L.tr l16.up
      have B3 := B3.ext l16
      have B10 := B10.ext l16
      have o19 := o19.ext l16
      have o19m := o19m.ext l16
      have o25 := o25.ext l16
      have o25m := o25m.ext l16
      refine s0 (x_not rfl) ?_
      refine s0 (x_move (v := .bool _) rfl) ?_
      refine gt rfl rfl rfl rfl ?_
      refine s0 (x_move (v := .int _ _) rfl) ?_
      refine gt rfl rfl rfl rfl ?_
      refine s0 (x_move (v := .int _ _) rfl) ?_
      refine gt rfl rfl rfl rfl ?_
      refine sb (x_neq rfl rfl) (fun h36 => ?_) (fun h36 => ?_)
      · exact absurd rfl h36
      · refine s0 (x_pickf (v := .bool _) rfl rfl) ?_
        refine s0 (x_move (v := .bool _) rfl) ?_
        refine gt rfl rfl rfl rfl ?_
        refine s0 (x_move (v := .int _ _) rfl) ?_
        refine gt rfl rfl rfl rfl ?_
        refine s0 (x_move (v := .int _ _) rfl) ?_
        refine gt rfl rfl rfl rfl ?_
        refine sb (x_neq rfl rfl) (fun h41 => ?_) (fun h41 => ?_)
        · exact absurd rfl h41
        · refine s0 (x_pickf (v := .bool _) rfl rfl) ?_
          refine c_end ?_
          refine n_then ?_
          refine c_false rfl ?_
          refine c_skipn ?_
          refine n_then ?_
          refine wp_seq ?_
          refine c_reg ?_
          refine s0 (x_assign (v := .int _ _) rfl) ?_
          refine c_end ?_
          refine n_then ?_
          refine wp_seq ?_
          refine c_reg ?_
          refine st (x_loadAgB ag85GX rfl B10 rfl) ?_
          refine s0 (x_move (v := .int _ _) rfl) ?_
          refine spm (zcall cl59GX rfl) (l_markStream _ _ _ _ _ _ _ _ _ _ _ _ _ _ _ _ _ o25 o25m (by first | assumption | exact Dj.symm (by assumption) | exact dj_of f25 g25 f25m g25m (by omega)) (by first | rfl | assumption) (by omega) (by omega) (by assumption) (by omega)) ?_
          rintro v45 w17 l18 ⟨ms45, rfl, o25, o25m, hm45, hn45, hb45, hr45⟩
          have z_l18 := l18.size
          have L := L.freshL l18 (fr_app (B := w.heap.size) (f25.mono (by omega)) (f25m.mono (by omega))) (Nat.le_refl _)
          have B3 := B3.exm l18 (nin_app (by first | assumption | exact nin_of f25 g25 (by omega)) (by first | assumption | exact nin_of f25m g25m (by omega)))
          have B10 := B10.exm l18 (nin_app (by first | assumption | exact nin_of f25 g25 (by omega)) (by first | assumption | exact nin_of f25m g25m (by omega)))
          have o19 := o19.exm l18 (Dj.symm (dj_app' (by first | assumption | exact Dj.symm (by assumption) | exact dj_of f19 g19 f25 g25 (by omega)) (by first | assumption | exact Dj.symm (by assumption) | exact dj_of f19 g19 f25m g25m (by omega))))
          have o19m := o19m.exm l18 (Dj.symm (dj_app' (by first | assumption | exact Dj.symm (by assumption) | exact dj_of f19m g19m f25 g25 (by omega)) (by first | assumption | exact Dj.symm (by assumption) | exact dj_of f19m g19m f25m g25m (by omega))))
          refine s0 (x_assign (v := .int _ _) rfl) ?_
          refine c_end ?_
          refine n_then ?_
          refine wp_seq ?_
          refine c_reg ?_
          refine s0 (x_assign (v := .int _ _) rfl) ?_
          refine c_end ?_
          refine n_then ?_
          refine wp_seq ?_
          refine c_reg ?_
          refine st (x_loadAgB ag85GX rfl B10 rfl) ?_
          refine s0 (x_move (v := .int _ _) rfl) ?_
          refine sr (zcall cl60GX rfl) (l_heldStream _ _ _ _ _ _ _ _ _ _ _ _ _ _ o25.sl o25m.rdm (by first | rfl | assumption) (by assumption) (by omega) (by omega) (by assumption) (by omega)) ?_
          intro w19 l20
          have z_l20 := l20.size
          have L := L.tr l20.up
          have B3 := B3.ext l20
          have B10 := B10.ext l20
          have o19 := o19.ext l20
          have o19m := o19m.ext l20
          have o25 := o25.ext l20
          have o25m := o25m.ext l20
          refine s0 (x_assign (v := .int _ _) rfl) ?_
          refine c_end ?_
          refine n_then ?_
          refine wp_seq ?_
          refine wp_seq ?_
          refine c_reg ?_
          refine s0 (x_move (v := .int _ _) rfl) ?_
          refine sb (x_lss rfl rfl) (fun h50 => ?_) (fun h50 => ?_)
          · omega
          · refine c_end ?_
            refine n_then ?_
            refine c_false rfl ?_
            refine c_skipn ?_
            refine n_then ?_
            refine wp_seq ?_
            refine wp_seq ?_
            refine c_reg ?_
            refine s0 (x_move (v := .int _ _) rfl) ?_
            refine s0 (x_move (v := .int _ _) rfl) ?_
            refine sb (x_neq rfl rfl) (fun h53 => ?_) (fun h53 => ?_)
            · exact absurd rfl h53
            · refine c_end ?_
              refine n_then ?_
              refine c_false rfl ?_
              refine c_skipn ?_
              refine n_then ?_
              refine wp_seq ?_
              refine c_reg ?_
              refine s0 (x_move (v := .string _) rfl) ?_
              refine sp (zcall cl57GX rfl) (i_parse _ _ (by omega)) ?_
              rintro v56 w21 l22 ⟨p56, c56, F56, p56m, ms56, c56m, F56m, rfl, o56, f56, o56m, f56m, dj56, hm56⟩
              have z_l22 := l22.size
              have L := L.tr l22.up
              have B3 := B3.ext l22
              have B10 := B10.ext l22
              have o19 := o19.ext l22
              have o19m := o19m.ext l22
              have o25 := o25.ext l22
              have o25m := o25m.ext l22
              obtain ⟨hl56, hc56, hb56⟩ := pr_small hm56
              have g56 := o56.lt
              have g56m := o56m.lt
              refine s0 (x_move (v := .tuple _) rfl) ?_
              refine s0 (x_extract rfl rfl) ?_
              refine s0 (x_extract rfl rfl) ?_
              refine s0 (x_extract rfl rfl) ?_
              refine s_alloc zr85GX ?_
              intro b23 w24 lob23 hib23 l25 B23
              have z_l25 := l25.size
              have L := L.tr l25.up
              have B3 := B3.ext l25
              have B10 := B10.ext l25
              have o19 := o19.ext l25
              have o19m := o19m.ext l25
              have o25 := o25.ext l25
              have o25m := o25m.ext l25
              have o56 := o56.ext l25
              have o56m := o56m.ext l25
              refine s_storeAg rfl sz85GX rfl rfl B23 rfl rfl rfl ?_
              intro w26 l27 el27 B23
              have z_l27 := l27.size
              have L := L.fresh l27 (by omega)
              have B3 := B3.ne l27 (by omega)
              have B10 := B10.ne l27 (by omega)
              have o19 := o19.ne l27 (by first | assumption | exact nin_of f19 g19 (by omega))
              have o19m := o19m.ne l27 (by first | assumption | exact nin_of f19m g19m (by omega))
              have o25 := o25.ne l27 (by first | assumption | exact nin_of f25 g25 (by omega))
              have o25m := o25m.ne l27 (by first | assumption | exact nin_of f25m g25m (by omega))
              have o56 := o56.ne l27 (by first | assumption | exact nin_of f56 g56 (by omega))
              have o56m := o56m.ne l27 (by first | assumption | exact nin_of f56m g56m (by omega))
              refine s0 (x_assign (v := .int _ _) rfl) ?_
              refine s0 (x_assign (v := .int _ _) rfl) ?_
              refine c_end ?_
              refine n_then ?_
              refine wp_seq ?_
              refine wp_seq ?_
              refine c_reg ?_
              refine st (x_loadAgB ag85GX rfl B23 rfl) ?_
              refine st (x_loadAgB ag85GX rfl B3 rfl) ?_
              refine srb (zcall cl58GX rfl) (l_eqStream _ _ _ _ _ _ _ _ _ _ _ _ _ _ _ _ _ _ _ _ _ _ _ o56.sl o56m.rdm o19.sl o19m.rdm (by omega) (by omega) hb56) (fun h62 w28 l29 => ?_) (fun h62 w28 l29 => ?_)
              · have z_l29 := l29.size
                have L := L.tr l29.up
                have B3 := B3.ext l29
                have B10 := B10.ext l29
                have B23 := B23.ext l29
                have o19 := o19.ext l29
                have o19m := o19m.ext l29
                have o25 := o25.ext l29
                have o25m := o25m.ext l29
                have o56 := o56.ext l29
                have o56m := o56m.ext l29
                refine s0 (x_not rfl) ?_
                refine s0 (x_move (v := .bool _) rfl) ?_
                refine gt rfl rfl rfl rfl ?_
                refine s0 (x_move (v := .int _ _) rfl) ?_
                refine gt rfl rfl rfl rfl ?_
                refine s0 (x_move (v := .int _ _) rfl) ?_
                refine gt rfl rfl rfl rfl ?_
                refine sb (x_neq rfl rfl) (fun h67 => ?_) (fun h67 => ?_)
                · exact absurd rfl h67
                · refine s0 (x_pickf (v := .bool _) rfl rfl) ?_
                  refine s0 (x_move (v := .bool _) rfl) ?_
                  refine gt rfl rfl rfl rfl ?_
                  refine s0 (x_move (v := .int _ _) rfl) ?_
                  refine gt rfl rfl rfl rfl ?_
                  refine s0 (x_move (v := .int _ _) rfl) ?_
                  refine gt rfl rfl rfl rfl ?_
                  refine sb (x_neq rfl rfl) (fun h72 => ?_) (fun h72 => ?_)
                  · exact absurd rfl h72
                  · refine s0 (x_pickf (v := .bool _) rfl rfl) ?_
                    refine c_end ?_
                    refine n_then ?_
                    refine c_false rfl ?_
                    refine c_skipn ?_
                    refine n_then ?_
                    refine wp_seq ?_
                    refine c_reg ?_
                    refine s0 (x_assign (v := .int _ _) rfl) ?_
                    refine c_end ?_
                    refine n_then ?_
                    refine wp_seq ?_
                    refine c_reg ?_
                    refine st (x_loadAgB ag85GX rfl B10 rfl) ?_
                    refine s0 (x_move (v := .int _ _) rfl) ?_
                    refine sr (zcall cl60GX rfl) (l_heldStream _ _ _ _ _ _ _ _ _ _ _ _ _ _ o25.sl o25m.rdm (by first | rfl | assumption) (by assumption) (by omega) (by omega) (by assumption) (by omega)) ?_
                    intro w30 l31
                    have z_l31 := l31.size
                    have L := L.tr l31.up
                    have B3 := B3.ext l31
                    have B10 := B10.ext l31
                    have B23 := B23.ext l31
                    have o19 := o19.ext l31
                    have o19m := o19m.ext l31
                    have o25 := o25.ext l31
                    have o25m := o25m.ext l31
                    have o56 := o56.ext l31
                    have o56m := o56m.ext l31
                    refine s0 (x_assign (v := .int _ _) rfl) ?_
                    refine c_end ?_
                    refine n_then ?_
                    refine wp_seq ?_
                    refine wp_seq ?_
                    refine c_reg ?_
                    refine s0 (x_move (v := .int _ _) rfl) ?_
                    refine sb (x_lss rfl rfl) (fun h78 => ?_) (fun h78 => ?_)
                    · omega
                    · refine c_end ?_
                      refine n_then ?_
                      refine c_false rfl ?_
                      refine c_skipn ?_
                      refine n_then ?_
                      refine wp_seq ?_
                      refine wp_seq ?_
                      refine c_reg ?_
                      refine s0 (x_move (v := .int _ _) rfl) ?_
                      refine s0 (x_move (v := .int _ _) rfl) ?_
                      refine sb (x_neq rfl rfl) (fun h81 => ?_) (fun h81 => ?_)
                      · exact absurd rfl h81
                      · refine c_end ?_
                        refine n_then ?_
                        refine c_false rfl ?_
                        refine c_skipn ?_
                        refine n_then ?_
                        refine wp_seq ?_
                        refine c_reg ?_
                        refine s0 (x_assign (v := .bool _) rfl) ?_
                        refine c_end ?_
                        refine n_then ?_
                        refine wp_ret ?_
                        refine f_ret rfl rfl ?_
                        exact ⟨rfl, L⟩
              · exact (h62 ⟨rfl, rfl, rfl, rfl, rfl, rfl, hm56.trans hm19.symm⟩).elim
    · exact (h31 ⟨rfl, rfl, rfl, rfl, rfl, rfl, hm25.trans hm19.symm⟩).elim

end Go.Proofs.Ytnehdmcilmlchaa
