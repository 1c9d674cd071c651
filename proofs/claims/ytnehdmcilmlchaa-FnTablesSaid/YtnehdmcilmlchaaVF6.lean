/- What each function of this part returns, for every argument that meets its premises. -/
import Derived.Test.YtnehdmcilmlchaaProg
import Derived.Test.YtnehdmcilmlchaaVSxF
import Derived.Test.YtnehdmcilmlchaaVPlX
import Derived.Test.YtnehdmcilmlchaaVF3
import Derived.Test.YtnehdmcilmlchaaVF5
namespace Go.Proofs.Ytnehdmcilmlchaa
open Go.Sx Go.Pl Go.RowKit
theorem ag25F6 : Ag Try.prog 25 4 := ⟨⟨_, Try.underlying25⟩, by kernel_rfl⟩
theorem bd25F6 : Built Try.prog 25 [.string .empty, .int .i64 0, .int .i64 0, .int .i64 0] #[(0, 1), (1, 1), (2, 1), (3, 1)] := ⟨_, Try.underlying25, by unfold ZeroV; kernel_rfl, fun w => by kernel_rfl⟩
theorem cl103F6 : Callable Try.prog 103 := callable Try.func103 (by kernel_rfl) rfl
theorem cl171F6 : Callable Try.prog 171 := callable Try.func171 (by kernel_rfl) rfl
theorem cl174F6 : Callable Try.prog 174 := callable Try.func174 (by kernel_rfl) rfl
theorem cl175F6 : Callable Try.prog 175 := callable Try.func175 (by kernel_rfl) rfl
theorem cl82F6 : Callable Try.prog 82 := callable Try.func82 (by kernel_rfl) rfl
theorem cl84F6 : Callable Try.prog 84 := callable Try.func84 (by kernel_rfl) rfl
theorem cl98F6 : Callable Try.prog 98 := callable Try.func98 (by kernel_rfl) rfl
theorem fa25_0F6 : FieldAt Try.prog 25 0 0 := ⟨_, _, Try.underlying25, rfl, rfl, ⟨0, by unfold Sz; kernel_rfl⟩⟩
theorem fa25_1F6 : FieldAt Try.prog 25 1 1 := ⟨_, _, Try.underlying25, rfl, rfl, ⟨0, by unfold Sz; kernel_rfl⟩⟩
theorem fa25_2F6 : FieldAt Try.prog 25 2 2 := ⟨_, _, Try.underlying25, rfl, rfl, ⟨0, by unfold Sz; kernel_rfl⟩⟩
theorem fa25_3F6 : FieldAt Try.prog 25 3 3 := ⟨_, _, Try.underlying25, rfl, rfl, ⟨0, by unfold Sz; kernel_rfl⟩⟩
theorem fa35_0F6 : FieldAt Try.prog 35 0 0 := ⟨_, _, Try.underlying35, rfl, rfl, ⟨0, by unfold Sz; kernel_rfl⟩⟩
theorem sc3F6 : Sc Try.prog 3 := ⟨(.int .i64), by kernel_rfl, trivial⟩
theorem sc9F6 : Sc Try.prog 9 := ⟨.string, by kernel_rfl, trivial⟩
theorem so40F6 : SliceOf Try.prog 40 3 1 8 := ⟨by kernel_rfl, by kernel_rfl⟩
theorem sz25F6 : Sz Try.prog 25 4 := by unfold Sz; kernel_rfl
theorem sz3F6 : Sz Try.prog 3 1 := by unfold Sz; kernel_rfl
theorem sz35F6 : Sz Try.prog 35 2 := by unfold Sz; kernel_rfl
theorem un9F6 : Try.prog.underlying 9 = some .string := by kernel_rfl
theorem zr25F6 : ZeroV Try.prog 25 [.string .empty, .int .i64 0, .int .i64 0, .int .i64 0] := by unfold ZeroV; kernel_rfl
theorem zr3F6 : ZeroV Try.prog 3 [.int .i64 0] := by unfold ZeroV; kernel_rfl
theorem zr35F6 : ZeroV Try.prog 35 [.string .empty, .int .i64 0] := by unfold ZeroV; kernel_rfl
/-- spec.CacheNew -/
theorem s_cacheNew (s : ByteArray) (w : World) :
    Calls Try.prog 174 [.string s].toArray w (Ret w (.agg [.string s, .int .i64 (Ca.mk 0 0 0).pos, .int .i64 (Ca.mk 0 0 0).word, .int .i64 (Ca.mk 0 0 0).hv].toArray)) := by
  have L : Exm [] w w := Exm.rfl'
  refine enter (n := 5) Try.func174 rfl rfl rfl ?_
  refine wp_seq ?_
  refine c_reg ?_
  refine s_alloc zr25F6 ?_
  intro b1 w2 lob1 hib1 l3 B1
  have z_l3 := l3.size
  have L := L.tr l3.up
  refine c_end ?_
  refine n_then ?_
  refine wp_seq ?_
  refine c_reg ?_
  refine s0 (x_move (v := .string _) rfl) ?_
  refine s0 (x_build (cs := [.string _, .int .i64 0, .int .i64 0, .int .i64 0]) bd25F6 (pts_cons (v := .string _) rfl pts_nil) rfl) ?_
  refine s_storeAg rfl sz25F6 rfl rfl B1 rfl rfl rfl ?_
  intro w4 l5 el5 B1
  have z_l5 := l5.size
  have L := L.fresh l5 (by omega)
  refine c_end ?_
  refine n_then ?_
  refine wp_ret ?_
  refine f_retc rfl rfl ag25F6 B1 rfl ?_
  exact ⟨rfl, L⟩

theorem ca_of (s : ByteArray) (p w h : Int) (hs : s.size ≤ 16) : ∃ (s' : ByteArray) (c : Ca), Value.agg [.string s, .int .i64 p, .int .i64 w, .int .i64 h].toArray = .agg [.string s', .int .i64 c.pos, .int .i64 c.word, .int .i64 c.hv].toArray ∧ s'.size ≤ 16 := ⟨s, ⟨p, w, h⟩, rfl, hs⟩

/-- spec.l4Cache -/
theorem s_l4Cache (b B : Nat) (w : World) (hcu : Cu w b B 192) :
    Calls Try.prog 80 [pt b 0].toArray w (RetM [b] w fun v w' => (∃ (s : ByteArray) (c : Ca), v = .agg [.string s, .int .i64 (c).pos, .int .i64 (c).word, .int .i64 (c).hv].toArray ∧ s.size ≤ 16) ∧ Cu w' b B 192) := by
  have hcb := hcu.lt
  have L : Exm [b] w w := Exm.rfl'
  refine enter (n := 59) Try.func80 rfl rfl rfl ?_
  refine wp_seq ?_
  refine c_reg ?_
  refine s_alloc zr25F6 ?_
  intro b1 w2 lob1 hib1 l3 B1
  have z_l3 := l3.size
  have L := L.tr l3.up
  have hcu := hcu.ext l3
  refine c_end ?_
  refine n_then ?_
  refine wp_seq ?_
  refine c_reg ?_
  refine s0 (x_move (v := .pointer _) rfl) ?_
  refine spm (zcall cl103F6 rfl) (s_l3Reader b _ _ hcu) ?_
  rintro v7 w4 l5 ⟨⟨s7, a7, rfl, hx7⟩, hcu⟩
  have z_l5 := l5.size
  have L := L.within l5 (by simp)
  have B1 := B1.ne l5 (by omega)
  refine s_alloc zr35F6 ?_
  intro b6 w7 lob6 hib6 l8 B6
  have z_l8 := l8.size
  have L := L.tr l8.up
  have hcu := hcu.ext l8
  have B1 := B1.ext l8
  refine s_storeAg rfl sz35F6 rfl rfl B6 rfl rfl rfl ?_
  intro w9 l10 el10 B6
  have z_l10 := l10.size
  have L := L.fresh l10 (by omega)
  have hcu := hcu.ne l10 (by omega)
  have B1 := B1.ne l10 (by omega)
  refine c_end ?_
  refine n_then ?_
  refine wp_seq ?_
  refine c_reg ?_
  refine s0 (x_fieldAddr fa35_0F6 rfl) ?_
  refine st (x_loadB sc9F6 rfl B6 rfl) ?_
  refine sr (zcall cl174F6 rfl) (s_cacheNew _ _) ?_
  intro w11 l12
  have z_l12 := l12.size
  have L := L.tr l12.up
  have hcu := hcu.ext l12
  have B1 := B1.ext l12
  have B6 := B6.ext l12
  refine s_alloc zr25F6 ?_
  intro b13 w14 lob13 hib13 l15 B13
  have z_l15 := l15.size
  have L := L.tr l15.up
  have hcu := hcu.ext l15
  have B1 := B1.ext l15
  have B6 := B6.ext l15
  refine s_storeAg rfl sz25F6 rfl rfl B13 rfl rfl rfl ?_
  intro w16 l17 el17 B13
  have z_l17 := l17.size
  have L := L.fresh l17 (by omega)
  have hcu := hcu.ne l17 (by omega)
  have B1 := B1.ne l17 (by omega)
  have B6 := B6.ne l17 (by omega)
  refine c_end ?_
  refine n_then ?_
  refine wp_seq ?_
  refine wp_seq ?_
  refine c_reg ?_
  refine s0 (x_move (v := .pointer _) rfl) ?_
  refine spm (zcall cl171F6 rfl) (s_below b _ _ _ hcu) ?_
  rintro v12 w18 l19 ⟨⟨x12, rfl, hx12⟩, hcu⟩
  have z_l19 := l19.size
  have L := L.within l19 (by simp)
  have B1 := B1.ne l19 (by omega)
  have B6 := B6.ne l19 (by omega)
  have B13 := B13.ne l19 (by omega)
  refine s0 (x_assign (v := .int _ _) rfl) ?_
  refine c_end ?_
  refine n_then ?_
  refine wp_block ?_
  refine c_loop (γ := Ca × Int) (fun g => g.2.toNat) (fun (g : Ca × Int) E wl => ∃ E0, E = upd (upd (upd (upd E0 0 (pt b 0)) 2 (pt b1 0)) 4 (pt b13 0)) 5 (.int .i64 g.2) ∧ (Exm [b] w wl) ∧ (w18.heap.size ≤ wl.heap.size) ∧ (Cu wl b B 192) ∧ (Bx wl b1 [.string .empty, .int .i64 0, .int .i64 0, .int .i64 0] 25) ∧ (Bx wl b6 [.string s7, .int .i64 a7] 35) ∧ (Bx wl b13 [.string s7, .int .i64 (g.1).pos, .int .i64 (g.1).word, .int .i64 (g.1).hv] 25) ∧ (caOk s7 g.1) ∧ (g.2 ≤ 5)) (⟨0, 0, 0⟩, x12) ⟨_, upd_self4 rfl rfl rfl rfl, L, (by omega), hcu, B1, B6, B13, (new_ok s7), (by omega)⟩ ?_
  rintro g E wl20 ⟨E0, rfl, L, Lz, hcu, B1, B6, B13, hg, h2⟩
  have Lz0 := L.size
  refine wp_seq ?_
  refine wp_seq ?_
  refine c_reg ?_
  refine s0 (x_move (v := .int _ _) rfl) ?_
  refine sb (x_gtr rfl rfl) (fun h14 => ?_) (fun h14 => ?_)
  · refine c_end ?_
    refine n_then ?_
    refine c_true rfl ?_
    refine c_skipn ?_
    refine n_then ?_
    refine wp_seq ?_
    refine wp_block ?_
    refine c_plan (fun wq => Exm [b] wl20 wq) 7 (.cons (0, 1) (.cons (1, 2) (.cons (2, 0) (.cons (3, 0) (.cons (4, 2) (.cons (5, 2) (.cons (6, 2) (.cons (7, 0) .nil)))))))) (by kernel_rfl) (by kernel_rfl) (Exm.drew _) ?_
    obtain ⟨w21, hwd⟩ : ∃ x, x = wl20.drew := ⟨_, rfl⟩
    have l22 : Ext wl20 w21 := by rw [hwd]; exact Exm.drew _
    rw [← hwd]; clear hwd
    have Lq : Exm [b] wl20 w21 := l22.up
    have qhcu := hcu
    have qB1 := B1
    have qB6 := B6
    have qB13 := B13
    have qL := L
    have z_l22 := l22.size
    have L := L.tr l22.up
    have hcu := hcu.ext l22
    have B1 := B1.ext l22
    have B6 := B6.ext l22
    have B13 := B13.ext l22
    refine ps rfl (fun wq hwq => x_loadAgB ag25F6 rfl (qB13.ne hwq (by omega)) rfl) ?_
    refine p0 rfl (x_move (v := .pointer _) rfl) ?_
    refine pu rfl ?_ (by rintro ⟨_, _, h, _⟩; cases h)
    refine spm (zcall cl171F6 rfl) (s_below b _ _ _ hcu) ?_
    rintro v20 w23 l24 ⟨⟨x20, rfl, hx20⟩, hcu⟩
    have z_l24 := l24.size
    have L := L.within l24 (by simp)
    have Lq := Lq.within l24 (by simp)
    have B1 := B1.ne l24 (by omega)
    have B6 := B6.ne l24 (by omega)
    have B13 := B13.ne l24 (by omega)
    refine c_end ⟨rfl, fun h hS => Lq, ?_⟩
    refine pu rfl ?_ (by rintro ⟨_, _, h, _⟩; cases h)
    refine sr (zcall cl98F6 rfl) (s_skip _ g.1 _ _ (by omega)) ?_
    intro w25 l26
    have z_l26 := l26.size
    have L := L.tr l26.up
    have Lq := Lq.tr l26.up
    have hcu := hcu.ext l26
    have B1 := B1.ext l26
    have B6 := B6.ext l26
    have B13 := B13.ext l26
    refine c_end ⟨rfl, fun h hS => Lq, ?_⟩
    refine p0 rfl (x_move (v := .tuple _) rfl) ?_
    refine p0 rfl (x_extract rfl rfl) ?_
    refine p0 rfl (x_extract rfl rfl) ?_
    refine pu rfl ?_ (by rintro ⟨_, _, h, _⟩; cases h)
    refine s_storeAg rfl sz25F6 rfl rfl B13 rfl rfl rfl ?_
    intro w27 l28 el28 B13
    have z_l28 := l28.size
    have L := L.fresh l28 (by omega)
    have hcu := hcu.ne l28 (by omega)
    have B1 := B1.ne l28 (by omega)
    have B6 := B6.ne l28 (by omega)
    refine c_end ⟨rfl, fun h hS => absurd h (by decide), ?_⟩
    refine p_nil (np_normal ?_)
    refine n_block ?_
    refine n_then ?_
    refine c_reg ?_
    refine s0 (x_move (v := .int _ _) rfl) ?_
    refine s0 (x_sub rfl rfl (by omega)) ?_
    refine s0 (x_assign (v := .int _ _) rfl) ?_
    refine c_end ?_
    exact c_round (g' := (skC s7 g.1 x20, g.2 - 1)) (by show (g.2 - 1).toNat < g.2.toNat; omega) ⟨_, upd_self4 rfl rfl rfl rfl, L, (by omega), hcu, B1, B6, B13, (sk_keep hg), (by show g.2 - 1 ≤ 5; omega)⟩
  · refine c_end ?_
    refine n_then ?_
    refine c_false rfl ?_
    refine wp_exit (e_then (e_then (e_here ?_)))
    refine n_then ?_
    refine wp_seq ?_
    refine wp_seq ?_
    refine c_reg ?_
    refine s0 (x_move (v := .pointer _) rfl) ?_
    refine spm (zcall cl82F6 rfl) (s_once b _ _ _ hcu) ?_
    rintro v25 w29 l30 ⟨⟨x25, rfl⟩, hcu⟩
    have z_l30 := l30.size
    have L := L.within l30 (by simp)
    have B1 := B1.ne l30 (by omega)
    have B6 := B6.ne l30 (by omega)
    have B13 := B13.ne l30 (by omega)
    by_cases h25 : x25 = true
    · subst h25
      refine c_end ?_
      refine n_then ?_
      refine c_true rfl ?_
      refine c_reg ?_
      refine st (x_loadAgB ag25F6 rfl B13 rfl) ?_
      refine sr (zcall cl84F6 rfl) (s_refill _ g.1 _ (by omega)) ?_
      intro w31 l32
      have z_l32 := l32.size
      have L := L.tr l32.up
      have hcu := hcu.ext l32
      have B1 := B1.ext l32
      have B6 := B6.ext l32
      have B13 := B13.ext l32
      refine s_storeAg rfl sz25F6 rfl rfl B13 rfl rfl rfl ?_
      intro w33 l34 el34 B13
      have z_l34 := l34.size
      have L := L.fresh l34 (by omega)
      have hcu := hcu.ne l34 (by omega)
      have B1 := B1.ne l34 (by omega)
      have B6 := B6.ne l34 (by omega)
      refine c_end ?_
      refine n_then ?_
      refine wp_seq ?_
      refine wp_seq ?_
      have hk := (refill_keep hg).1
      have hw := ca_word56 hk
      obtain ⟨hg1, hg2, hg3, hg4, hg5, hg6⟩ := id hk
      refine c_reg ?_
      refine s0 (x_move (v := .pointer _) rfl) ?_
      refine spm (zcall cl171F6 rfl) (s_below b _ _ _ hcu) ?_
      rintro v29 w35 l36 ⟨⟨x29, rfl, hx29⟩, hcu⟩
      have z_l36 := l36.size
      have L := L.within l36 (by simp)
      have B1 := B1.ne l36 (by omega)
      have B6 := B6.ne l36 (by omega)
      have B13 := B13.ne l36 (by omega)
      refine c_end ?_
      refine n_then ?_
      refine wp_block ?_
      refine wp_seq ?_
      refine c_reg ?_
      refine sb (x_eql rfl rfl) (fun h31 => ?_) (fun h31 => ?_)
      · refine s0 (x_assign (v := .bool _) rfl) ?_
        refine c_end ?_
        refine n_then ?_
        refine c_true rfl ?_
        refine c_reg ?_
        refine s0 (x_fieldAddr fa25_2F6 rfl) ?_
        refine st (x_loadB sc3F6 rfl B13 rfl) ?_
        refine s0 (x_add rfl rfl (by omega)) ?_
        refine s0 (x_fieldAddr fa25_2F6 rfl) ?_
        refine s_store (v := .int _ _) (cs' := [_, _, _, _]) rfl sz3F6 rfl rfl rfl rfl B13 rfl rfl ?_
        intro w37 l38 el38 B13
        have z_l38 := l38.size
        have L := L.fresh l38 (by omega)
        have hcu := hcu.ne l38 (by omega)
        have B1 := B1.ne l38 (by omega)
        have B6 := B6.ne l38 (by omega)
        refine c_end ?_
        refine n_block ?_
        refine n_then ?_
        refine wp_seq ?_
        refine c_reg ?_
        refine st (x_loadAgB ag25F6 rfl B13 rfl) ?_
        refine s_storeAg rfl sz25F6 rfl rfl B1 rfl rfl rfl ?_
        intro w39 l40 el40 B1
        have z_l40 := l40.size
        have L := L.fresh l40 (by omega)
        have hcu := hcu.ne l40 (by omega)
        have B6 := B6.ne l40 (by omega)
        have B13 := B13.ne l40 (by omega)
        refine c_end ?_
        refine n_then ?_
        refine wp_ret ?_
        refine f_retc rfl rfl ag25F6 B1 rfl ?_
        exact ⟨_, rfl, L, ca_of _ _ _ _ (by omega), hcu⟩
      · refine s0 (x_assign (v := .bool _) rfl) ?_
        refine c_end ?_
        refine n_then ?_
        refine c_false rfl ?_
        refine wp_seq ?_
        refine c_reg ?_
        refine sb (x_eql rfl rfl) (fun h37 => ?_) (fun h37 => ?_)
        · refine s0 (x_assign (v := .bool _) rfl) ?_
          refine c_end ?_
          refine n_then ?_
          refine c_true rfl ?_
          refine c_reg ?_
          refine s0 (x_move (v := .pointer _) rfl) ?_
          refine s0 (x_fieldAddr fa25_3F6 rfl) ?_
          refine st (x_loadB sc3F6 rfl B13 rfl) ?_
          refine s0 (x_add rfl rfl (by omega)) ?_
          refine s_bsi (xs := [_, _, _]) so40F6 zr3F6 (pts_cons rfl (pts_cons rfl (pts_cons rfl pts_nil))) rfl rfl rfl ?_
          intro p42 F42 w41 l42 o42 f42 g42
          have z_l42 := l42.size
          have L := L.tr l42.up
          have hcu := hcu.ext l42
          have B1 := B1.ext l42
          have B6 := B6.ext l42
          have B13 := B13.ext l42
          have hn42 := o42.n1
          refine spm (zcall cl175F6 rfl) (s_pick b _ _ _ _ _ _ hcu _ o42 (by first | assumption | exact nin_of f42 g42 (by omega)) (by omega)) ?_
          rintro v43 w43 l44 ⟨⟨x43, rfl, hx43⟩, hcu⟩
          have z_l44 := l44.size
          have L := L.within l44 (by simp)
          have B1 := B1.ne l44 (by omega)
          have B6 := B6.ne l44 (by omega)
          have B13 := B13.ne l44 (by omega)
          have o42 := o42.ne l44 (by first | assumption | exact nin_of f42 g42 (by omega))
          refine s0 (x_fieldAddr fa25_3F6 rfl) ?_
          refine s_store (v := .int _ _) (cs' := [_, _, _, _]) rfl sz3F6 rfl rfl rfl rfl B13 rfl rfl ?_
          intro w45 l46 el46 B13
          have z_l46 := l46.size
          have L := L.fresh l46 (by omega)
          have hcu := hcu.ne l46 (by omega)
          have B1 := B1.ne l46 (by omega)
          have B6 := B6.ne l46 (by omega)
          have o42 := o42.ne l46 (by first | assumption | exact nin_of f42 g42 (by omega))
          refine c_end ?_
          refine n_block ?_
          refine n_then ?_
          refine wp_seq ?_
          refine c_reg ?_
          refine st (x_loadAgB ag25F6 rfl B13 rfl) ?_
          refine s_storeAg rfl sz25F6 rfl rfl B1 rfl rfl rfl ?_
          intro w47 l48 el48 B1
          have z_l48 := l48.size
          have L := L.fresh l48 (by omega)
          have hcu := hcu.ne l48 (by omega)
          have B6 := B6.ne l48 (by omega)
          have B13 := B13.ne l48 (by omega)
          have o42 := o42.ne l48 (by first | assumption | exact nin_of f42 g42 (by omega))
          refine c_end ?_
          refine n_then ?_
          refine wp_ret ?_
          refine f_retc rfl rfl ag25F6 B1 rfl ?_
          exact ⟨_, rfl, L, ca_of _ _ _ _ (by omega), hcu⟩
        · refine s0 (x_assign (v := .bool _) rfl) ?_
          refine c_end ?_
          refine n_then ?_
          refine c_false rfl ?_
          refine wp_seq ?_
          refine c_reg ?_
          refine sb (x_eql rfl rfl) (fun h46 => ?_) (fun h46 => ?_)
          · refine s0 (x_assign (v := .bool _) rfl) ?_
            refine c_end ?_
            refine n_then ?_
            refine c_true rfl ?_
            refine c_reg ?_
            refine s0 (x_move (v := .pointer _) rfl) ?_
            refine s0 (x_fieldAddr fa25_1F6 rfl) ?_
            refine st (x_loadB sc3F6 rfl B13 rfl) ?_
            refine s0 (x_add rfl rfl (by omega)) ?_
            refine s0 (x_fieldAddr fa25_0F6 rfl) ?_
            refine st (x_loadB sc9F6 rfl B13 rfl) ?_
            refine s0 (x_len un9F6 rfl) ?_
            refine s0 (x_add rfl rfl (by omega)) ?_
            refine s_bsi (xs := [_, _, _]) so40F6 zr3F6 (pts_cons rfl (pts_cons rfl (pts_cons rfl pts_nil))) rfl rfl rfl ?_
            intro p55 F55 w49 l50 o55 f55 g55
            have z_l50 := l50.size
            have L := L.tr l50.up
            have hcu := hcu.ext l50
            have B1 := B1.ext l50
            have B6 := B6.ext l50
            have B13 := B13.ext l50
            have hn55 := o55.n1
            refine spm (zcall cl175F6 rfl) (s_pick b _ _ _ _ _ _ hcu _ o55 (by first | assumption | exact nin_of f55 g55 (by omega)) (by omega)) ?_
            rintro v56 w51 l52 ⟨⟨x56, rfl, hx56⟩, hcu⟩
            have z_l52 := l52.size
            have L := L.within l52 (by simp)
            have B1 := B1.ne l52 (by omega)
            have B6 := B6.ne l52 (by omega)
            have B13 := B13.ne l52 (by omega)
            have o55 := o55.ne l52 (by first | assumption | exact nin_of f55 g55 (by omega))
            refine s0 (x_fieldAddr fa25_1F6 rfl) ?_
            refine s_store (v := .int _ _) (cs' := [_, _, _, _]) rfl sz3F6 rfl rfl rfl rfl B13 rfl rfl ?_
            intro w53 l54 el54 B13
            have z_l54 := l54.size
            have L := L.fresh l54 (by omega)
            have hcu := hcu.ne l54 (by omega)
            have B1 := B1.ne l54 (by omega)
            have B6 := B6.ne l54 (by omega)
            have o55 := o55.ne l54 (by first | assumption | exact nin_of f55 g55 (by omega))
            refine c_end ?_
            refine n_block ?_
            refine n_then ?_
            refine wp_seq ?_
            refine c_reg ?_
            refine st (x_loadAgB ag25F6 rfl B13 rfl) ?_
            refine s_storeAg rfl sz25F6 rfl rfl B1 rfl rfl rfl ?_
            intro w55 l56 el56 B1
            have z_l56 := l56.size
            have L := L.fresh l56 (by omega)
            have hcu := hcu.ne l56 (by omega)
            have B6 := B6.ne l56 (by omega)
            have B13 := B13.ne l56 (by omega)
            have o55 := o55.ne l56 (by first | assumption | exact nin_of f55 g55 (by omega))
            refine c_end ?_
            refine n_then ?_
            refine wp_ret ?_
            refine f_retc rfl rfl ag25F6 B1 rfl ?_
            exact ⟨_, rfl, L, ca_of _ _ _ _ (by omega), hcu⟩
          · refine s0 (x_assign (v := .bool _) rfl) ?_
            refine c_end ?_
            refine n_then ?_
            refine c_false rfl ?_
            refine c_skipn ?_
            refine n_block ?_
            refine n_then ?_
            refine wp_seq ?_
            refine c_reg ?_
            refine st (x_loadAgB ag25F6 rfl B13 rfl) ?_
            refine s_storeAg rfl sz25F6 rfl rfl B1 rfl rfl rfl ?_
            intro w57 l58 el58 B1
            have z_l58 := l58.size
            have L := L.fresh l58 (by omega)
            have hcu := hcu.ne l58 (by omega)
            have B6 := B6.ne l58 (by omega)
            have B13 := B13.ne l58 (by omega)
            refine c_end ?_
            refine n_then ?_
            refine wp_ret ?_
            refine f_retc rfl rfl ag25F6 B1 rfl ?_
            exact ⟨_, rfl, L, ca_of _ _ _ _ (by omega), hcu⟩
    · obtain rfl := Bool.eq_false_iff.2 h25
      refine c_end ?_
      refine n_then ?_
      refine c_false rfl ?_
      refine c_skipn ?_
      refine n_then ?_
      refine wp_seq ?_
      refine wp_seq ?_
      have hw := ca_word56 hg
      obtain ⟨hg1, hg2, hg3, hg4, hg5, hg6⟩ := id hg
      refine c_reg ?_
      refine s0 (x_move (v := .pointer _) rfl) ?_
      refine spm (zcall cl171F6 rfl) (s_below b _ _ _ hcu) ?_
      rintro v29 w59 l60 ⟨⟨x29, rfl, hx29⟩, hcu⟩
      have z_l60 := l60.size
      have L := L.within l60 (by simp)
      have B1 := B1.ne l60 (by omega)
      have B6 := B6.ne l60 (by omega)
      have B13 := B13.ne l60 (by omega)
      refine c_end ?_
      refine n_then ?_
      refine wp_block ?_
      refine wp_seq ?_
      refine c_reg ?_
      refine sb (x_eql rfl rfl) (fun h31 => ?_) (fun h31 => ?_)
      · refine s0 (x_assign (v := .bool _) rfl) ?_
        refine c_end ?_
        refine n_then ?_
        refine c_true rfl ?_
        refine c_reg ?_
        refine s0 (x_fieldAddr fa25_2F6 rfl) ?_
        refine st (x_loadB sc3F6 rfl B13 rfl) ?_
        refine s0 (x_add rfl rfl (by omega)) ?_
        refine s0 (x_fieldAddr fa25_2F6 rfl) ?_
        refine s_store (v := .int _ _) (cs' := [_, _, _, _]) rfl sz3F6 rfl rfl rfl rfl B13 rfl rfl ?_
        intro w61 l62 el62 B13
        have z_l62 := l62.size
        have L := L.fresh l62 (by omega)
        have hcu := hcu.ne l62 (by omega)
        have B1 := B1.ne l62 (by omega)
        have B6 := B6.ne l62 (by omega)
        refine c_end ?_
        refine n_block ?_
        refine n_then ?_
        refine wp_seq ?_
        refine c_reg ?_
        refine st (x_loadAgB ag25F6 rfl B13 rfl) ?_
        refine s_storeAg rfl sz25F6 rfl rfl B1 rfl rfl rfl ?_
        intro w63 l64 el64 B1
        have z_l64 := l64.size
        have L := L.fresh l64 (by omega)
        have hcu := hcu.ne l64 (by omega)
        have B6 := B6.ne l64 (by omega)
        have B13 := B13.ne l64 (by omega)
        refine c_end ?_
        refine n_then ?_
        refine wp_ret ?_
        refine f_retc rfl rfl ag25F6 B1 rfl ?_
        exact ⟨_, rfl, L, ca_of _ _ _ _ (by omega), hcu⟩
      · refine s0 (x_assign (v := .bool _) rfl) ?_
        refine c_end ?_
        refine n_then ?_
        refine c_false rfl ?_
        refine wp_seq ?_
        refine c_reg ?_
        refine sb (x_eql rfl rfl) (fun h37 => ?_) (fun h37 => ?_)
        · refine s0 (x_assign (v := .bool _) rfl) ?_
          refine c_end ?_
          refine n_then ?_
          refine c_true rfl ?_
          refine c_reg ?_
          refine s0 (x_move (v := .pointer _) rfl) ?_
          refine s0 (x_fieldAddr fa25_3F6 rfl) ?_
          refine st (x_loadB sc3F6 rfl B13 rfl) ?_
          refine s0 (x_add rfl rfl (by omega)) ?_
          refine s_bsi (xs := [_, _, _]) so40F6 zr3F6 (pts_cons rfl (pts_cons rfl (pts_cons rfl pts_nil))) rfl rfl rfl ?_
          intro p42 F42 w65 l66 o42 f42 g42
          have z_l66 := l66.size
          have L := L.tr l66.up
          have hcu := hcu.ext l66
          have B1 := B1.ext l66
          have B6 := B6.ext l66
          have B13 := B13.ext l66
          have hn42 := o42.n1
          refine spm (zcall cl175F6 rfl) (s_pick b _ _ _ _ _ _ hcu _ o42 (by first | assumption | exact nin_of f42 g42 (by omega)) (by omega)) ?_
          rintro v43 w67 l68 ⟨⟨x43, rfl, hx43⟩, hcu⟩
          have z_l68 := l68.size
          have L := L.within l68 (by simp)
          have B1 := B1.ne l68 (by omega)
          have B6 := B6.ne l68 (by omega)
          have B13 := B13.ne l68 (by omega)
          have o42 := o42.ne l68 (by first | assumption | exact nin_of f42 g42 (by omega))
          refine s0 (x_fieldAddr fa25_3F6 rfl) ?_
          refine s_store (v := .int _ _) (cs' := [_, _, _, _]) rfl sz3F6 rfl rfl rfl rfl B13 rfl rfl ?_
          intro w69 l70 el70 B13
          have z_l70 := l70.size
          have L := L.fresh l70 (by omega)
          have hcu := hcu.ne l70 (by omega)
          have B1 := B1.ne l70 (by omega)
          have B6 := B6.ne l70 (by omega)
          have o42 := o42.ne l70 (by first | assumption | exact nin_of f42 g42 (by omega))
          refine c_end ?_
          refine n_block ?_
          refine n_then ?_
          refine wp_seq ?_
          refine c_reg ?_
          refine st (x_loadAgB ag25F6 rfl B13 rfl) ?_
          refine s_storeAg rfl sz25F6 rfl rfl B1 rfl rfl rfl ?_
          intro w71 l72 el72 B1
          have z_l72 := l72.size
          have L := L.fresh l72 (by omega)
          have hcu := hcu.ne l72 (by omega)
          have B6 := B6.ne l72 (by omega)
          have B13 := B13.ne l72 (by omega)
          have o42 := o42.ne l72 (by first | assumption | exact nin_of f42 g42 (by omega))
          refine c_end ?_
          refine n_then ?_
          refine wp_ret ?_
          refine f_retc rfl rfl ag25F6 B1 rfl ?_
          exact ⟨_, rfl, L, ca_of _ _ _ _ (by omega), hcu⟩
        · refine s0 (x_assign (v := .bool _) rfl) ?_
          refine c_end ?_
          refine n_then ?_
          refine c_false rfl ?_
          refine wp_seq ?_
          refine c_reg ?_
          refine sb (x_eql rfl rfl) (fun h46 => ?_) (fun h46 => ?_)
          · refine s0 (x_assign (v := .bool _) rfl) ?_
            refine c_end ?_
            refine n_then ?_
            refine c_true rfl ?_
            refine c_reg ?_
            refine s0 (x_move (v := .pointer _) rfl) ?_
            refine s0 (x_fieldAddr fa25_1F6 rfl) ?_
            refine st (x_loadB sc3F6 rfl B13 rfl) ?_
            refine s0 (x_add rfl rfl (by omega)) ?_
            refine s0 (x_fieldAddr fa25_0F6 rfl) ?_
            refine st (x_loadB sc9F6 rfl B13 rfl) ?_
            refine s0 (x_len un9F6 rfl) ?_
            refine s0 (x_add rfl rfl (by omega)) ?_
            refine s_bsi (xs := [_, _, _]) so40F6 zr3F6 (pts_cons rfl (pts_cons rfl (pts_cons rfl pts_nil))) rfl rfl rfl ?_
            intro p55 F55 w73 l74 o55 f55 g55
            have z_l74 := l74.size
            have L := L.tr l74.up
            have hcu := hcu.ext l74
            have B1 := B1.ext l74
            have B6 := B6.ext l74
            have B13 := B13.ext l74
            have hn55 := o55.n1
            refine spm (zcall cl175F6 rfl) (s_pick b _ _ _ _ _ _ hcu _ o55 (by first | assumption | exact nin_of f55 g55 (by omega)) (by omega)) ?_
            rintro v56 w75 l76 ⟨⟨x56, rfl, hx56⟩, hcu⟩
            have z_l76 := l76.size
            have L := L.within l76 (by simp)
            have B1 := B1.ne l76 (by omega)
            have B6 := B6.ne l76 (by omega)
            have B13 := B13.ne l76 (by omega)
            have o55 := o55.ne l76 (by first | assumption | exact nin_of f55 g55 (by omega))
            refine s0 (x_fieldAddr fa25_1F6 rfl) ?_
            refine s_store (v := .int _ _) (cs' := [_, _, _, _]) rfl sz3F6 rfl rfl rfl rfl B13 rfl rfl ?_
            intro w77 l78 el78 B13
            have z_l78 := l78.size
            have L := L.fresh l78 (by omega)
            have hcu := hcu.ne l78 (by omega)
            have B1 := B1.ne l78 (by omega)
            have B6 := B6.ne l78 (by omega)
            have o55 := o55.ne l78 (by first | assumption | exact nin_of f55 g55 (by omega))
            refine c_end ?_
            refine n_block ?_
            refine n_then ?_
            refine wp_seq ?_
            refine c_reg ?_
            refine st (x_loadAgB ag25F6 rfl B13 rfl) ?_
            refine s_storeAg rfl sz25F6 rfl rfl B1 rfl rfl rfl ?_
            intro w79 l80 el80 B1
            have z_l80 := l80.size
            have L := L.fresh l80 (by omega)
            have hcu := hcu.ne l80 (by omega)
            have B6 := B6.ne l80 (by omega)
            have B13 := B13.ne l80 (by omega)
            have o55 := o55.ne l80 (by first | assumption | exact nin_of f55 g55 (by omega))
            refine c_end ?_
            refine n_then ?_
            refine wp_ret ?_
            refine f_retc rfl rfl ag25F6 B1 rfl ?_
            exact ⟨_, rfl, L, ca_of _ _ _ _ (by omega), hcu⟩
          · refine s0 (x_assign (v := .bool _) rfl) ?_
            refine c_end ?_
            refine n_then ?_
            refine c_false rfl ?_
            refine c_skipn ?_
            refine n_block ?_
            refine n_then ?_
            refine wp_seq ?_
            refine c_reg ?_
            refine st (x_loadAgB ag25F6 rfl B13 rfl) ?_
            refine s_storeAg rfl sz25F6 rfl rfl B1 rfl rfl rfl ?_
            intro w81 l82 el82 B1
            have z_l82 := l82.size
            have L := L.fresh l82 (by omega)
            have hcu := hcu.ne l82 (by omega)
            have B6 := B6.ne l82 (by omega)
            have B13 := B13.ne l82 (by omega)
            refine c_end ?_
            refine n_then ?_
            refine wp_ret ?_
            refine f_retc rfl rfl ag25F6 B1 rfl ?_
            exact ⟨_, rfl, L, ca_of _ _ _ _ (by omega), hcu⟩

end Go.Proofs.Ytnehdmcilmlchaa
