/- What each function of this part returns, for every argument that meets its premises. -/
import Derived.Test.YtnehdmcilmlchaaProg
import Derived.Test.YtnehdmcilmlchaaVSxF
import Derived.Test.YtnehdmcilmlchaaVPlW
import Derived.Test.YtnehdmcilmlchaaVF1
import Derived.Test.YtnehdmcilmlchaaVF3
import Derived.Test.YtnehdmcilmlchaaVFA
import Derived.Test.YtnehdmcilmlchaaVFL
namespace Go.Proofs.Ytnehdmcilmlchaa
open Go.Sx Go.Pl Go.RowKit
theorem ag25FO : Ag Try.prog 25 4 := ⟨⟨_, Try.underlying25⟩, by kernel_rfl⟩
theorem ag42FO : Ag Try.prog 42 6 := ⟨⟨_, Try.underlying42⟩, by kernel_rfl⟩
theorem bd35FO : Built Try.prog 35 [.string .empty, .int .i64 0] #[(0, 1), (1, 1)] := ⟨_, Try.underlying35, by unfold ZeroV; kernel_rfl, fun w => by kernel_rfl⟩
theorem bd42FO : Built Try.prog 42 [.int .i64 0, .int .i64 0, .int .i64 0, .bool false, .bool false, .slice none 0 0] #[(0, 1), (1, 1), (2, 1), (3, 1), (4, 1), (5, 1)] := ⟨_, Try.underlying42, by unfold ZeroV; kernel_rfl, fun w => by kernel_rfl⟩
theorem cl15FO : Callable Try.prog 15 := callable Try.func15 (by kernel_rfl) rfl
theorem cl21FO : Callable Try.prog 21 := callable Try.func21 (by kernel_rfl) rfl
theorem cl23FO : Callable Try.prog 23 := callable Try.func23 (by kernel_rfl) rfl
theorem cl86FO : Callable Try.prog 86 := callable Try.func86 (by kernel_rfl) rfl
theorem cl89FO : Callable Try.prog 89 := callable Try.func89 (by kernel_rfl) rfl
theorem fa25_0FO : FieldAt Try.prog 25 0 0 := ⟨_, _, Try.underlying25, rfl, rfl, ⟨0, by unfold Sz; kernel_rfl⟩⟩
theorem fa35_1FO : FieldAt Try.prog 35 1 1 := ⟨_, _, Try.underlying35, rfl, rfl, ⟨0, by unfold Sz; kernel_rfl⟩⟩
theorem sc3FO : Sc Try.prog 3 := ⟨(.int .i64), by kernel_rfl, trivial⟩
theorem sc9FO : Sc Try.prog 9 := ⟨.string, by kernel_rfl, trivial⟩
theorem sz25FO : Sz Try.prog 25 4 := by unfold Sz; kernel_rfl
theorem sz35FO : Sz Try.prog 35 2 := by unfold Sz; kernel_rfl
theorem sz42FO : Sz Try.prog 42 6 := by unfold Sz; kernel_rfl
theorem zr25FO : ZeroV Try.prog 25 [.string .empty, .int .i64 0, .int .i64 0, .int .i64 0] := by unfold ZeroV; kernel_rfl
theorem zr35FO : ZeroV Try.prog 35 [.string .empty, .int .i64 0] := by unfold ZeroV; kernel_rfl
theorem zr42FO : ZeroV Try.prog 42 [.int .i64 0, .int .i64 0, .int .i64 0, .bool false, .bool false, .slice none 0 0] := by unfold ZeroV; kernel_rfl
/-- impl.FastHeader -/
theorem i_fastHeader (s : ByteArray) (ca : Ca) (p : Option Addr) (t : List (Int × Int)) (c : Nat) (w : World) (hs : s.size ≤ 1048576) (hp : Sl w p t.length c 2 (t.flatMap erow)) (hl : t.length ≤ 1099511627776) :
    Calls Try.prog 24 [.agg [.string s, .int .i64 (ca).pos, .int .i64 (ca).word, .int .i64 (ca).hv].toArray, .slice p t.length c].toArray w (RetP w fun v w' => ∃ p c F, v = .tuple [.agg [.string s, .int .i64 (fhC s ca t).pos, .int .i64 (fhC s ca t).word, .int .i64 (fhC s ca t).hv].toArray, .agg [.int .i64 (fhW s ca t), .int .i64 (fhH s ca t), .int .i64 (fhQ s ca t), .bool (fhB s ca t), .bool (fhD s ca t), .slice p (fhL s ca t).length c].toArray, .int .i64 (fhE s ca t)].toArray ∧ Own w' p (fhL s ca t).length c 3 1 (ic (fhL s ca t)) F ∧ Fr w.heap.size F) := by
  have L : Exm [] w w := Exm.rfl'
  refine enter (n := 37) Try.func24 rfl rfl rfl ?_
  refine wp_seq ?_
  refine c_reg ?_
  refine s_box rfl rfl ?_
  intro b1 w2 lob1 hib1 l3 B1
  have z_l3 := l3.size
  have L := L.tr l3.up
  refine s_alloc zr25FO ?_
  intro b4 w5 lob4 hib4 l6 B4
  have z_l6 := l6.size
  have L := L.tr l6.up
  have B1 := B1.ext l6
  refine s_alloc zr42FO ?_
  intro b7 w8 lob7 hib7 l9 B7
  have z_l9 := l9.size
  have L := L.tr l9.up
  have B1 := B1.ext l9
  have B4 := B4.ext l9
  refine s0 (x_assign (v := .int _ _) rfl) ?_
  refine c_end ?_
  refine n_then ?_
  refine wp_seq ?_
  refine wp_seq ?_
  refine c_reg ?_
  refine st (x_loadAgB ag25FO rfl B1 rfl) ?_
  refine srb (zcall cl86FO rfl) (i_cacheOk _ _ _ _ _ (by omega)) (fun h11 w10 l11 => ?_) (fun h11 w10 l11 => ?_)
  · have z_l11 := l11.size
    have L := L.tr l11.up
    have B1 := B1.ext l11
    have B4 := B4.ext l11
    have B7 := B7.ext l11
    refine s0 (x_not rfl) ?_
    refine s0 (x_move (v := .bool _) rfl) ?_
    refine gt rfl rfl rfl rfl ?_
    refine s0 (x_move (v := .slice _ _ _) rfl) ?_
    refine gt rfl rfl rfl rfl ?_
    refine srb (zcall cl15FO rfl) (i_tableOk _ _ _ _ (hp.ext L) (by omega)) (fun h15 w12 l13 => ?_) (fun h15 w12 l13 => ?_)
    · have z_l13 := l13.size
      have L := L.tr l13.up
      have B1 := B1.ext l13
      have B4 := B4.ext l13
      have B7 := B7.ext l13
      refine gt rfl rfl rfl rfl ?_
      refine s0 (x_not rfl) ?_
      refine s0 (x_pickf (v := .bool _) rfl rfl) ?_
      refine c_end ?_
      refine n_then ?_
      refine c_false rfl ?_
      refine c_skipn ?_
      refine n_then ?_
      refine wp_seq ?_
      have hpl := place_of h11
      have hin := place_in h11
      rw [← hpl] at hin
      have hri := rh_in hin
      refine c_plan (fun wq => Exm [] w12 wq) 15 (.cons (0, 2) (.cons (1, 1) (.cons (2, 1) (.fork3 3 10 11 (.cons (4, 2) (.fork3 5 10 11 (.cons (6, 2) (.cons (7, 2) (.cons (8, 2) (.cons (9, 2) (.fork 10 11 (.cons (11, 0) (.cons (12, 0) (.cons (13, 0) (.cons (14, 2) .nil)))) (.cons (10, 0) (.cons (12, 0) (.cons (13, 0) (.cons (14, 2) .nil))))))))) (.fork 5 11 (.cons (6, 2) (.cons (7, 2) (.cons (8, 2) (.cons (9, 2) (.cons (11, 0) (.cons (12, 0) (.cons (13, 0) (.cons (14, 2) .nil)))))))) (.cons (5, 0) (.cons (6, 2) (.cons (7, 2) (.cons (8, 2) (.cons (9, 2) (.cons (12, 0) (.cons (13, 0) (.cons (14, 2) .nil))))))))) (.fork 5 10 (.cons (6, 2) (.cons (7, 2) (.cons (8, 2) (.cons (9, 2) (.cons (10, 0) (.cons (12, 0) (.cons (13, 0) (.cons (14, 2) .nil)))))))) (.cons (5, 0) (.cons (6, 2) (.cons (7, 2) (.cons (8, 2) (.cons (9, 2) (.cons (12, 0) (.cons (13, 0) (.cons (14, 2) .nil))))))))))) (.fork 3 11 (.cons (4, 2) (.fork 5 11 (.cons (6, 2) (.cons (7, 2) (.cons (8, 2) (.cons (9, 2) (.cons (11, 0) (.cons (12, 0) (.cons (13, 0) (.cons (14, 2) .nil)))))))) (.cons (5, 0) (.cons (6, 2) (.cons (7, 2) (.cons (8, 2) (.cons (9, 2) (.cons (12, 0) (.cons (13, 0) (.cons (14, 2) .nil)))))))))) (.cons (3, 0) (.cons (4, 2) (.cons (5, 0) (.cons (6, 2) (.cons (7, 2) (.cons (8, 2) (.cons (9, 2) (.cons (12, 0) (.cons (13, 0) (.cons (14, 2) .nil))))))))))) (.fork 3 10 (.cons (4, 2) (.fork 5 10 (.cons (6, 2) (.cons (7, 2) (.cons (8, 2) (.cons (9, 2) (.cons (10, 0) (.cons (12, 0) (.cons (13, 0) (.cons (14, 2) .nil)))))))) (.cons (5, 0) (.cons (6, 2) (.cons (7, 2) (.cons (8, 2) (.cons (9, 2) (.cons (12, 0) (.cons (13, 0) (.cons (14, 2) .nil)))))))))) (.cons (3, 0) (.cons (4, 2) (.cons (5, 0) (.cons (6, 2) (.cons (7, 2) (.cons (8, 2) (.cons (9, 2) (.cons (12, 0) (.cons (13, 0) (.cons (14, 2) .nil))))))))))))))) (by kernel_rfl) (by kernel_rfl) (Exm.drew _) ?_
      obtain ⟨w14, hwd⟩ : ∃ x, x = w12.drew := ⟨_, rfl⟩
      have l15 : Ext w12 w14 := by rw [hwd]; exact Exm.drew _
      rw [← hwd]; clear hwd
      have Lq : Exm [] w12 w14 := l15.up
      have qB1 := B1
      have qB4 := B4
      have qB7 := B7
      have qL := L
      have z_l15 := l15.size
      have L := L.tr l15.up
      have B1 := B1.ext l15
      have B4 := B4.ext l15
      have B7 := B7.ext l15
      refine p0 rfl (x_fieldAddr fa25_0FO rfl) ?_
      refine ps rfl (fun wq hwq => x_loadB sc9FO rfl (qB1.ext hwq) rfl) ?_
      refine ps rfl (fun wq hwq => x_loadAgB ag25FO rfl (qB1.ext hwq) rfl) ?_
      refine pfork3 ?_ ?_ ?_
      · refine pu rfl ?_ (by rintro ⟨_, _, h, _⟩; cases h)
        refine sr (zcall cl21FO rfl) (i_place _ _ _ (by omega)) ?_
        intro w16 l17
        have z_l17 := l17.size
        have L := L.tr l17.up
        have Lq := Lq.tr l17.up
        have B1 := B1.ext l17
        have B4 := B4.ext l17
        have B7 := B7.ext l17
        refine c_end ⟨rfl, fun h hS => Lq, ?_⟩
        refine p0 rfl (x_build (cs := [.string _, .int _ _]) bd35FO (pts_cons (v := .string _) rfl (pts_cons (v := .int _ _) rfl pts_nil)) rfl) ?_
        refine pfork3 ?_ ?_ ?_
        · refine pu rfl ?_ (by rintro ⟨_, _, h, _⟩; cases h)
          refine sp (zcall cl23FO rfl) (i_readHeader _ _ _ (by omega)) ?_
          rintro v26 w18 l19 ⟨p26, c26, F26, rfl, o26, f26⟩
          have z_l19 := l19.size
          have L := L.tr l19.up
          have Lq := Lq.tr l19.up
          have B1 := B1.ext l19
          have B4 := B4.ext l19
          have B7 := B7.ext l19
          have g26 := o26.lt
          refine c_end ⟨rfl, fun h hS => Lq, ?_⟩
          refine p0 rfl (x_move (v := .tuple _) rfl) ?_
          refine p0 rfl (x_extract rfl rfl) ?_
          refine p0 rfl (x_extract rfl rfl) ?_
          refine p0 rfl (x_extract rfl rfl) ?_
          refine pfork ?_ ?_
          · refine pu rfl ?_ (by rintro ⟨_, _, h, _⟩; cases h)
            refine s_alloc zr35FO ?_
            intro b20 w21 lob20 hib20 l22 B20
            have z_l22 := l22.size
            have L := L.tr l22.up
            have Lq := Lq.tr l22.up
            have B1 := B1.ext l22
            have B4 := B4.ext l22
            have B7 := B7.ext l22
            have o26 := o26.ext l22
            refine c_end ⟨rfl, fun h hS => Lq, ?_⟩
            refine pu rfl ?_ (by rintro ⟨_, _, h, _⟩; cases h)
            refine s_alloc zr42FO ?_
            intro b23 w24 lob23 hib23 l25 B23
            have z_l25 := l25.size
            have L := L.tr l25.up
            have Lq := Lq.tr l25.up
            have B1 := B1.ext l25
            have B4 := B4.ext l25
            have B7 := B7.ext l25
            have B20 := B20.ext l25
            have o26 := o26.ext l25
            refine c_end ⟨rfl, fun h hS => Lq, ?_⟩
            refine pu rfl ?_ (by rintro ⟨_, _, h, _⟩; cases h)
            refine s_storeAg rfl sz35FO rfl rfl B20 rfl rfl rfl ?_
            intro w26 l27 el27 B20
            have z_l27 := l27.size
            have L := L.fresh l27 (by omega)
            have Lq := Lq.fresh l27 (by omega)
            have B1 := B1.ne l27 (by omega)
            have B4 := B4.ne l27 (by omega)
            have B7 := B7.ne l27 (by omega)
            have B23 := B23.ne l27 (by omega)
            have o26 := o26.ne l27 (by first | assumption | exact nin_of f26 g26 (by omega))
            refine c_end ⟨rfl, fun h hS => Lq, ?_⟩
            refine pu rfl ?_ (by rintro ⟨_, _, h, _⟩; cases h)
            refine s_storeAg rfl sz42FO rfl rfl B23 rfl rfl rfl ?_
            intro w28 l29 el29 B23
            have z_l29 := l29.size
            have L := L.fresh l29 (by omega)
            have Lq := Lq.fresh l29 (by omega)
            have B1 := B1.ne l29 (by omega)
            have B4 := B4.ne l29 (by omega)
            have B7 := B7.ne l29 (by omega)
            have B20 := B20.ne l29 (by omega)
            have o26 := o26.ne l29 (by first | assumption | exact nin_of f26 g26 (by omega))
            refine c_end ⟨rfl, fun h hS => Lq, ?_⟩
            refine p0 rfl (x_assign (v := .int _ _) rfl) ?_
            refine p_nil (np_normal ?_)
            refine n_then ?_
            refine wp_seq ?_
            refine c_plan (fun wq => Exm [b4, b7] w28 wq) 10 (.cons (0, 2) (.cons (1, 1) (.cons (2, 2) (.cons (3, 1) (.cons (5, 1) (.cons (6, 2) (.cons (4, 0) (.cons (7, 0) (.cons (8, 0) (.cons (9, 2) .nil)))))))))) (by kernel_rfl) (by kernel_rfl) (Exm.drew _) ?_
            obtain ⟨w30, hwd⟩ : ∃ x, x = w28.drew := ⟨_, rfl⟩
            have l31 : Ext w28 w30 := by rw [hwd]; exact Exm.drew _
            rw [← hwd]; clear hwd
            have Lq : Exm [b4, b7] w28 w30 := l31.up
            have qB1 := B1
            have qB4 := B4
            have qB7 := B7
            have qB20 := B20
            have qB23 := B23
            have qo26 := o26
            have qL := L
            have z_l31 := l31.size
            have L := L.tr l31.up
            have B1 := B1.ext l31
            have B4 := B4.ext l31
            have B7 := B7.ext l31
            have B20 := B20.ext l31
            have B23 := B23.ext l31
            have o26 := o26.ext l31
            refine p0 rfl (x_fieldAddr fa25_0FO rfl) ?_
            refine ps rfl (fun wq hwq => x_loadB sc9FO rfl (qB1.exm hwq (by simp; omega)) rfl) ?_
            refine p0 rfl (x_fieldAddr fa35_1FO rfl) ?_
            refine ps rfl (fun wq hwq => x_loadB sc3FO rfl (qB20.exm hwq (by simp; omega)) rfl) ?_
            refine ps rfl (fun wq hwq => x_loadAgB ag42FO rfl (qB23.exm hwq (by simp; omega)) rfl) ?_
            refine p0 rfl (x_move (v := .int _ _) rfl) ?_
            refine pu rfl ?_ (by rintro ⟨_, _, h, _⟩; cases h)
            refine sr (zcall cl89FO rfl) (i_settledAt _ _ _ (by omega) (by omega)) ?_
            intro w32 l33
            have z_l33 := l33.size
            have L := L.tr l33.up
            have Lq := Lq.tr l33.up
            have B1 := B1.ext l33
            have B4 := B4.ext l33
            have B7 := B7.ext l33
            have B20 := B20.ext l33
            have B23 := B23.ext l33
            have o26 := o26.ext l33
            refine c_end ⟨rfl, fun h hS => Lq, ?_⟩
            refine pu rfl ?_ (by rintro ⟨_, _, h, _⟩; cases h)
            refine s_storeAg rfl sz25FO rfl rfl B4 rfl rfl rfl ?_
            intro w34 l35 el35 B4
            have z_l35 := l35.size
            have L := L.fresh l35 (by omega)
            have Lq := Lq.within l35 (by simp)
            have B1 := B1.ne l35 (by omega)
            have B7 := B7.ne l35 (by omega)
            have B20 := B20.ne l35 (by omega)
            have B23 := B23.ne l35 (by omega)
            have o26 := o26.ne l35 (by first | assumption | exact nin_of f26 g26 (by omega))
            refine c_end ⟨rfl, fun h hS => Lq, ?_⟩
            refine pu rfl ?_ (by rintro ⟨_, _, h, _⟩; cases h)
            refine s_storeAg rfl sz42FO rfl rfl B7 rfl rfl rfl ?_
            intro w36 l37 el37 B7
            have z_l37 := l37.size
            have L := L.fresh l37 (by omega)
            have Lq := Lq.within l37 (by simp)
            have B1 := B1.ne l37 (by omega)
            have B4 := B4.ne l37 (by omega)
            have B20 := B20.ne l37 (by omega)
            have B23 := B23.ne l37 (by omega)
            have o26 := o26.ne l37 (by first | assumption | exact nin_of f26 g26 (by omega))
            refine c_end ⟨rfl, fun h hS => Lq, ?_⟩
            refine p0 rfl (x_assign (v := .int _ _) rfl) ?_
            refine p_nil (np_normal ?_)
            refine n_then ?_
            refine wp_ret ?_
            refine f_rets3 rfl (ro_cell rfl ag25FO B4 rfl) (ro_cell rfl ag42FO B7 rfl) (ro_tmp rfl) ?_
            obtain ⟨e1, e2, e3, e4, e5, e6, e7, e8⟩ := fh_yes (s := s) (c := ca) (t := t) ⟨h11, h15⟩
            rw [e1, e2, e3, e4, e5, e6, e7, e8, ← hpl]
            exact ⟨_, rfl, L, _, _, _, rfl, o26, f26.mono (by omega)⟩
          · refine pu rfl ?_ (by rintro ⟨_, _, h, _⟩; cases h)
            refine s_alloc zr42FO ?_
            intro b38 w39 lob38 hib38 l40 B38
            have z_l40 := l40.size
            have L := L.tr l40.up
            have Lq := Lq.tr l40.up
            have B1 := B1.ext l40
            have B4 := B4.ext l40
            have B7 := B7.ext l40
            have o26 := o26.ext l40
            refine c_end ⟨rfl, fun h hS => Lq, ?_⟩
            refine pu rfl ?_ (by rintro ⟨_, _, h, _⟩; cases h)
            refine s_alloc zr35FO ?_
            intro b41 w42 lob41 hib41 l43 B41
            have z_l43 := l43.size
            have L := L.tr l43.up
            have Lq := Lq.tr l43.up
            have B1 := B1.ext l43
            have B4 := B4.ext l43
            have B7 := B7.ext l43
            have B38 := B38.ext l43
            have o26 := o26.ext l43
            refine c_end ⟨rfl, fun h hS => Lq, ?_⟩
            refine pu rfl ?_ (by rintro ⟨_, _, h, _⟩; cases h)
            refine s_storeAg rfl sz35FO rfl rfl B41 rfl rfl rfl ?_
            intro w44 l45 el45 B41
            have z_l45 := l45.size
            have L := L.fresh l45 (by omega)
            have Lq := Lq.fresh l45 (by omega)
            have B1 := B1.ne l45 (by omega)
            have B4 := B4.ne l45 (by omega)
            have B7 := B7.ne l45 (by omega)
            have B38 := B38.ne l45 (by omega)
            have o26 := o26.ne l45 (by first | assumption | exact nin_of f26 g26 (by omega))
            refine c_end ⟨rfl, fun h hS => Lq, ?_⟩
            refine pu rfl ?_ (by rintro ⟨_, _, h, _⟩; cases h)
            refine s_storeAg rfl sz42FO rfl rfl B38 rfl rfl rfl ?_
            intro w46 l47 el47 B38
            have z_l47 := l47.size
            have L := L.fresh l47 (by omega)
            have Lq := Lq.fresh l47 (by omega)
            have B1 := B1.ne l47 (by omega)
            have B4 := B4.ne l47 (by omega)
            have B7 := B7.ne l47 (by omega)
            have B41 := B41.ne l47 (by omega)
            have o26 := o26.ne l47 (by first | assumption | exact nin_of f26 g26 (by omega))
            refine c_end ⟨rfl, fun h hS => Lq, ?_⟩
            refine p0 rfl (x_assign (v := .int _ _) rfl) ?_
            refine p_nil (np_normal ?_)
            refine n_then ?_
            refine wp_seq ?_
            refine c_plan (fun wq => Exm [b4, b7] w46 wq) 10 (.cons (0, 2) (.cons (1, 1) (.cons (2, 2) (.cons (3, 1) (.cons (5, 1) (.cons (6, 2) (.cons (4, 0) (.cons (7, 0) (.cons (8, 0) (.cons (9, 2) .nil)))))))))) (by kernel_rfl) (by kernel_rfl) (Exm.drew _) ?_
            obtain ⟨w48, hwd⟩ : ∃ x, x = w46.drew := ⟨_, rfl⟩
            have l49 : Ext w46 w48 := by rw [hwd]; exact Exm.drew _
            rw [← hwd]; clear hwd
            have Lq : Exm [b4, b7] w46 w48 := l49.up
            have qB1 := B1
            have qB4 := B4
            have qB7 := B7
            have qB38 := B38
            have qB41 := B41
            have qo26 := o26
            have qL := L
            have z_l49 := l49.size
            have L := L.tr l49.up
            have B1 := B1.ext l49
            have B4 := B4.ext l49
            have B7 := B7.ext l49
            have B38 := B38.ext l49
            have B41 := B41.ext l49
            have o26 := o26.ext l49
            refine p0 rfl (x_fieldAddr fa25_0FO rfl) ?_
            refine ps rfl (fun wq hwq => x_loadB sc9FO rfl (qB1.exm hwq (by simp; omega)) rfl) ?_
            refine p0 rfl (x_fieldAddr fa35_1FO rfl) ?_
            refine ps rfl (fun wq hwq => x_loadB sc3FO rfl (qB41.exm hwq (by simp; omega)) rfl) ?_
            refine ps rfl (fun wq hwq => x_loadAgB ag42FO rfl (qB38.exm hwq (by simp; omega)) rfl) ?_
            refine p0 rfl (x_move (v := .int _ _) rfl) ?_
            refine pu rfl ?_ (by rintro ⟨_, _, h, _⟩; cases h)
            refine sr (zcall cl89FO rfl) (i_settledAt _ _ _ (by omega) (by omega)) ?_
            intro w50 l51
            have z_l51 := l51.size
            have L := L.tr l51.up
            have Lq := Lq.tr l51.up
            have B1 := B1.ext l51
            have B4 := B4.ext l51
            have B7 := B7.ext l51
            have B38 := B38.ext l51
            have B41 := B41.ext l51
            have o26 := o26.ext l51
            refine c_end ⟨rfl, fun h hS => Lq, ?_⟩
            refine pu rfl ?_ (by rintro ⟨_, _, h, _⟩; cases h)
            refine s_storeAg rfl sz25FO rfl rfl B4 rfl rfl rfl ?_
            intro w52 l53 el53 B4
            have z_l53 := l53.size
            have L := L.fresh l53 (by omega)
            have Lq := Lq.within l53 (by simp)
            have B1 := B1.ne l53 (by omega)
            have B7 := B7.ne l53 (by omega)
            have B38 := B38.ne l53 (by omega)
            have B41 := B41.ne l53 (by omega)
            have o26 := o26.ne l53 (by first | assumption | exact nin_of f26 g26 (by omega))
            refine c_end ⟨rfl, fun h hS => Lq, ?_⟩
            refine pu rfl ?_ (by rintro ⟨_, _, h, _⟩; cases h)
            refine s_storeAg rfl sz42FO rfl rfl B7 rfl rfl rfl ?_
            intro w54 l55 el55 B7
            have z_l55 := l55.size
            have L := L.fresh l55 (by omega)
            have Lq := Lq.within l55 (by simp)
            have B1 := B1.ne l55 (by omega)
            have B4 := B4.ne l55 (by omega)
            have B38 := B38.ne l55 (by omega)
            have B41 := B41.ne l55 (by omega)
            have o26 := o26.ne l55 (by first | assumption | exact nin_of f26 g26 (by omega))
            refine c_end ⟨rfl, fun h hS => Lq, ?_⟩
            refine p0 rfl (x_assign (v := .int _ _) rfl) ?_
            refine p_nil (np_normal ?_)
            refine n_then ?_
            refine wp_ret ?_
            refine f_rets3 rfl (ro_cell rfl ag25FO B4 rfl) (ro_cell rfl ag42FO B7 rfl) (ro_tmp rfl) ?_
            obtain ⟨e1, e2, e3, e4, e5, e6, e7, e8⟩ := fh_yes (s := s) (c := ca) (t := t) ⟨h11, h15⟩
            rw [e1, e2, e3, e4, e5, e6, e7, e8, ← hpl]
            exact ⟨_, rfl, L, _, _, _, rfl, o26, f26.mono (by omega)⟩
        · refine pu rfl ?_ (by rintro ⟨_, _, h, _⟩; cases h)
          refine s_alloc zr35FO ?_
          intro b56 w57 lob56 hib56 l58 B56
          have z_l58 := l58.size
          have L := L.tr l58.up
          have Lq := Lq.tr l58.up
          have B1 := B1.ext l58
          have B4 := B4.ext l58
          have B7 := B7.ext l58
          refine c_end ⟨rfl, fun h hS => Lq, ?_⟩
          refine pfork ?_ ?_
          · refine pu rfl ?_ (by rintro ⟨_, _, h, _⟩; cases h)
            refine sp (zcall cl23FO rfl) (i_readHeader _ _ _ (by omega)) ?_
            rintro v26 w59 l60 ⟨p26, c26, F26, rfl, o26, f26⟩
            have z_l60 := l60.size
            have L := L.tr l60.up
            have Lq := Lq.tr l60.up
            have B1 := B1.ext l60
            have B4 := B4.ext l60
            have B7 := B7.ext l60
            have B56 := B56.ext l60
            have g26 := o26.lt
            refine c_end ⟨rfl, fun h hS => Lq, ?_⟩
            refine p0 rfl (x_move (v := .tuple _) rfl) ?_
            refine p0 rfl (x_extract rfl rfl) ?_
            refine p0 rfl (x_extract rfl rfl) ?_
            refine p0 rfl (x_extract rfl rfl) ?_
            refine pu rfl ?_ (by rintro ⟨_, _, h, _⟩; cases h)
            refine s_alloc zr42FO ?_
            intro b61 w62 lob61 hib61 l63 B61
            have z_l63 := l63.size
            have L := L.tr l63.up
            have Lq := Lq.tr l63.up
            have B1 := B1.ext l63
            have B4 := B4.ext l63
            have B7 := B7.ext l63
            have B56 := B56.ext l63
            have o26 := o26.ext l63
            refine c_end ⟨rfl, fun h hS => Lq, ?_⟩
            refine pu rfl ?_ (by rintro ⟨_, _, h, _⟩; cases h)
            refine s_storeAg rfl sz35FO rfl rfl B56 rfl rfl rfl ?_
            intro w64 l65 el65 B56
            have z_l65 := l65.size
            have L := L.fresh l65 (by omega)
            have Lq := Lq.fresh l65 (by omega)
            have B1 := B1.ne l65 (by omega)
            have B4 := B4.ne l65 (by omega)
            have B7 := B7.ne l65 (by omega)
            have B61 := B61.ne l65 (by omega)
            have o26 := o26.ne l65 (by first | assumption | exact nin_of f26 g26 (by omega))
            refine c_end ⟨rfl, fun h hS => Lq, ?_⟩
            refine pu rfl ?_ (by rintro ⟨_, _, h, _⟩; cases h)
            refine s_storeAg rfl sz42FO rfl rfl B61 rfl rfl rfl ?_
            intro w66 l67 el67 B61
            have z_l67 := l67.size
            have L := L.fresh l67 (by omega)
            have Lq := Lq.fresh l67 (by omega)
            have B1 := B1.ne l67 (by omega)
            have B4 := B4.ne l67 (by omega)
            have B7 := B7.ne l67 (by omega)
            have B56 := B56.ne l67 (by omega)
            have o26 := o26.ne l67 (by first | assumption | exact nin_of f26 g26 (by omega))
            refine c_end ⟨rfl, fun h hS => Lq, ?_⟩
            refine p0 rfl (x_assign (v := .int _ _) rfl) ?_
            refine p_nil (np_normal ?_)
            refine n_then ?_
            refine wp_seq ?_
            refine c_plan (fun wq => Exm [b4, b7] w66 wq) 10 (.cons (0, 2) (.cons (1, 1) (.cons (2, 2) (.cons (3, 1) (.cons (5, 1) (.cons (6, 2) (.cons (4, 0) (.cons (7, 0) (.cons (8, 0) (.cons (9, 2) .nil)))))))))) (by kernel_rfl) (by kernel_rfl) (Exm.drew _) ?_
            obtain ⟨w68, hwd⟩ : ∃ x, x = w66.drew := ⟨_, rfl⟩
            have l69 : Ext w66 w68 := by rw [hwd]; exact Exm.drew _
            rw [← hwd]; clear hwd
            have Lq : Exm [b4, b7] w66 w68 := l69.up
            have qB1 := B1
            have qB4 := B4
            have qB7 := B7
            have qB56 := B56
            have qB61 := B61
            have qo26 := o26
            have qL := L
            have z_l69 := l69.size
            have L := L.tr l69.up
            have B1 := B1.ext l69
            have B4 := B4.ext l69
            have B7 := B7.ext l69
            have B56 := B56.ext l69
            have B61 := B61.ext l69
            have o26 := o26.ext l69
            refine p0 rfl (x_fieldAddr fa25_0FO rfl) ?_
            refine ps rfl (fun wq hwq => x_loadB sc9FO rfl (qB1.exm hwq (by simp; omega)) rfl) ?_
            refine p0 rfl (x_fieldAddr fa35_1FO rfl) ?_
            refine ps rfl (fun wq hwq => x_loadB sc3FO rfl (qB56.exm hwq (by simp; omega)) rfl) ?_
            refine ps rfl (fun wq hwq => x_loadAgB ag42FO rfl (qB61.exm hwq (by simp; omega)) rfl) ?_
            refine p0 rfl (x_move (v := .int _ _) rfl) ?_
            refine pu rfl ?_ (by rintro ⟨_, _, h, _⟩; cases h)
            refine sr (zcall cl89FO rfl) (i_settledAt _ _ _ (by omega) (by omega)) ?_
            intro w70 l71
            have z_l71 := l71.size
            have L := L.tr l71.up
            have Lq := Lq.tr l71.up
            have B1 := B1.ext l71
            have B4 := B4.ext l71
            have B7 := B7.ext l71
            have B56 := B56.ext l71
            have B61 := B61.ext l71
            have o26 := o26.ext l71
            refine c_end ⟨rfl, fun h hS => Lq, ?_⟩
            refine pu rfl ?_ (by rintro ⟨_, _, h, _⟩; cases h)
            refine s_storeAg rfl sz25FO rfl rfl B4 rfl rfl rfl ?_
            intro w72 l73 el73 B4
            have z_l73 := l73.size
            have L := L.fresh l73 (by omega)
            have Lq := Lq.within l73 (by simp)
            have B1 := B1.ne l73 (by omega)
            have B7 := B7.ne l73 (by omega)
            have B56 := B56.ne l73 (by omega)
            have B61 := B61.ne l73 (by omega)
            have o26 := o26.ne l73 (by first | assumption | exact nin_of f26 g26 (by omega))
            refine c_end ⟨rfl, fun h hS => Lq, ?_⟩
            refine pu rfl ?_ (by rintro ⟨_, _, h, _⟩; cases h)
            refine s_storeAg rfl sz42FO rfl rfl B7 rfl rfl rfl ?_
            intro w74 l75 el75 B7
            have z_l75 := l75.size
            have L := L.fresh l75 (by omega)
            have Lq := Lq.within l75 (by simp)
            have B1 := B1.ne l75 (by omega)
            have B4 := B4.ne l75 (by omega)
            have B56 := B56.ne l75 (by omega)
            have B61 := B61.ne l75 (by omega)
            have o26 := o26.ne l75 (by first | assumption | exact nin_of f26 g26 (by omega))
            refine c_end ⟨rfl, fun h hS => Lq, ?_⟩
            refine p0 rfl (x_assign (v := .int _ _) rfl) ?_
            refine p_nil (np_normal ?_)
            refine n_then ?_
            refine wp_ret ?_
            refine f_rets3 rfl (ro_cell rfl ag25FO B4 rfl) (ro_cell rfl ag42FO B7 rfl) (ro_tmp rfl) ?_
            obtain ⟨e1, e2, e3, e4, e5, e6, e7, e8⟩ := fh_yes (s := s) (c := ca) (t := t) ⟨h11, h15⟩
            rw [e1, e2, e3, e4, e5, e6, e7, e8, ← hpl]
            exact ⟨_, rfl, L, _, _, _, rfl, o26, f26.mono (by omega)⟩
          · refine pu rfl ?_ (by rintro ⟨_, _, h, _⟩; cases h)
            refine s_alloc zr42FO ?_
            intro b76 w77 lob76 hib76 l78 B76
            have z_l78 := l78.size
            have L := L.tr l78.up
            have Lq := Lq.tr l78.up
            have B1 := B1.ext l78
            have B4 := B4.ext l78
            have B7 := B7.ext l78
            have B56 := B56.ext l78
            refine c_end ⟨rfl, fun h hS => Lq, ?_⟩
            refine pu rfl ?_ (by rintro ⟨_, _, h, _⟩; cases h)
            refine sp (zcall cl23FO rfl) (i_readHeader _ _ _ (by omega)) ?_
            rintro v26 w79 l80 ⟨p26, c26, F26, rfl, o26, f26⟩
            have z_l80 := l80.size
            have L := L.tr l80.up
            have Lq := Lq.tr l80.up
            have B1 := B1.ext l80
            have B4 := B4.ext l80
            have B7 := B7.ext l80
            have B56 := B56.ext l80
            have B76 := B76.ext l80
            have g26 := o26.lt
            refine c_end ⟨rfl, fun h hS => Lq, ?_⟩
            refine p0 rfl (x_move (v := .tuple _) rfl) ?_
            refine p0 rfl (x_extract rfl rfl) ?_
            refine p0 rfl (x_extract rfl rfl) ?_
            refine p0 rfl (x_extract rfl rfl) ?_
            refine pu rfl ?_ (by rintro ⟨_, _, h, _⟩; cases h)
            refine s_storeAg rfl sz35FO rfl rfl B56 rfl rfl rfl ?_
            intro w81 l82 el82 B56
            have z_l82 := l82.size
            have L := L.fresh l82 (by omega)
            have Lq := Lq.fresh l82 (by omega)
            have B1 := B1.ne l82 (by omega)
            have B4 := B4.ne l82 (by omega)
            have B7 := B7.ne l82 (by omega)
            have B76 := B76.ne l82 (by omega)
            have o26 := o26.ne l82 (by first | assumption | exact nin_of f26 g26 (by omega))
            refine c_end ⟨rfl, fun h hS => Lq, ?_⟩
            refine pu rfl ?_ (by rintro ⟨_, _, h, _⟩; cases h)
            refine s_storeAg rfl sz42FO rfl rfl B76 rfl rfl rfl ?_
            intro w83 l84 el84 B76
            have z_l84 := l84.size
            have L := L.fresh l84 (by omega)
            have Lq := Lq.fresh l84 (by omega)
            have B1 := B1.ne l84 (by omega)
            have B4 := B4.ne l84 (by omega)
            have B7 := B7.ne l84 (by omega)
            have B56 := B56.ne l84 (by omega)
            have o26 := o26.ne l84 (by first | assumption | exact nin_of f26 g26 (by omega))
            refine c_end ⟨rfl, fun h hS => Lq, ?_⟩
            refine p0 rfl (x_assign (v := .int _ _) rfl) ?_
            refine p_nil (np_normal ?_)
            refine n_then ?_
            refine wp_seq ?_
            refine c_plan (fun wq => Exm [b4, b7] w83 wq) 10 (.cons (0, 2) (.cons (1, 1) (.cons (2, 2) (.cons (3, 1) (.cons (5, 1) (.cons (6, 2) (.cons (4, 0) (.cons (7, 0) (.cons (8, 0) (.cons (9, 2) .nil)))))))))) (by kernel_rfl) (by kernel_rfl) (Exm.drew _) ?_
            obtain ⟨w85, hwd⟩ : ∃ x, x = w83.drew := ⟨_, rfl⟩
            have l86 : Ext w83 w85 := by rw [hwd]; exact Exm.drew _
            rw [← hwd]; clear hwd
            have Lq : Exm [b4, b7] w83 w85 := l86.up
            have qB1 := B1
            have qB4 := B4
            have qB7 := B7
            have qB56 := B56
            have qB76 := B76
            have qo26 := o26
            have qL := L
            have z_l86 := l86.size
            have L := L.tr l86.up
            have B1 := B1.ext l86
            have B4 := B4.ext l86
            have B7 := B7.ext l86
            have B56 := B56.ext l86
            have B76 := B76.ext l86
            have o26 := o26.ext l86
            refine p0 rfl (x_fieldAddr fa25_0FO rfl) ?_
            refine ps rfl (fun wq hwq => x_loadB sc9FO rfl (qB1.exm hwq (by simp; omega)) rfl) ?_
            refine p0 rfl (x_fieldAddr fa35_1FO rfl) ?_
            refine ps rfl (fun wq hwq => x_loadB sc3FO rfl (qB56.exm hwq (by simp; omega)) rfl) ?_
            refine ps rfl (fun wq hwq => x_loadAgB ag42FO rfl (qB76.exm hwq (by simp; omega)) rfl) ?_
            refine p0 rfl (x_move (v := .int _ _) rfl) ?_
            refine pu rfl ?_ (by rintro ⟨_, _, h, _⟩; cases h)
            refine sr (zcall cl89FO rfl) (i_settledAt _ _ _ (by omega) (by omega)) ?_
            intro w87 l88
            have z_l88 := l88.size
            have L := L.tr l88.up
            have Lq := Lq.tr l88.up
            have B1 := B1.ext l88
            have B4 := B4.ext l88
            have B7 := B7.ext l88
            have B56 := B56.ext l88
            have B76 := B76.ext l88
            have o26 := o26.ext l88
            refine c_end ⟨rfl, fun h hS => Lq, ?_⟩
            refine pu rfl ?_ (by rintro ⟨_, _, h, _⟩; cases h)
            refine s_storeAg rfl sz25FO rfl rfl B4 rfl rfl rfl ?_
            intro w89 l90 el90 B4
            have z_l90 := l90.size
            have L := L.fresh l90 (by omega)
            have Lq := Lq.within l90 (by simp)
            have B1 := B1.ne l90 (by omega)
            have B7 := B7.ne l90 (by omega)
            have B56 := B56.ne l90 (by omega)
            have B76 := B76.ne l90 (by omega)
            have o26 := o26.ne l90 (by first | assumption | exact nin_of f26 g26 (by omega))
            refine c_end ⟨rfl, fun h hS => Lq, ?_⟩
            refine pu rfl ?_ (by rintro ⟨_, _, h, _⟩; cases h)
            refine s_storeAg rfl sz42FO rfl rfl B7 rfl rfl rfl ?_
            intro w91 l92 el92 B7
            have z_l92 := l92.size
            have L := L.fresh l92 (by omega)
            have Lq := Lq.within l92 (by simp)
            have B1 := B1.ne l92 (by omega)
            have B4 := B4.ne l92 (by omega)
            have B56 := B56.ne l92 (by omega)
            have B76 := B76.ne l92 (by omega)
            have o26 := o26.ne l92 (by first | assumption | exact nin_of f26 g26 (by omega))
            refine c_end ⟨rfl, fun h hS => Lq, ?_⟩
            refine p0 rfl (x_assign (v := .int _ _) rfl) ?_
            refine p_nil (np_normal ?_)
            refine n_then ?_
            refine wp_ret ?_
            refine f_rets3 rfl (ro_cell rfl ag25FO B4 rfl) (ro_cell rfl ag42FO B7 rfl) (ro_tmp rfl) ?_
            obtain ⟨e1, e2, e3, e4, e5, e6, e7, e8⟩ := fh_yes (s := s) (c := ca) (t := t) ⟨h11, h15⟩
            rw [e1, e2, e3, e4, e5, e6, e7, e8, ← hpl]
            exact ⟨_, rfl, L, _, _, _, rfl, o26, f26.mono (by omega)⟩
        · refine pu rfl ?_ (by rintro ⟨_, _, h, _⟩; cases h)
          refine s_alloc zr42FO ?_
          intro b93 w94 lob93 hib93 l95 B93
          have z_l95 := l95.size
          have L := L.tr l95.up
          have Lq := Lq.tr l95.up
          have B1 := B1.ext l95
          have B4 := B4.ext l95
          have B7 := B7.ext l95
          refine c_end ⟨rfl, fun h hS => Lq, ?_⟩
          refine pfork ?_ ?_
          · refine pu rfl ?_ (by rintro ⟨_, _, h, _⟩; cases h)
            refine sp (zcall cl23FO rfl) (i_readHeader _ _ _ (by omega)) ?_
            rintro v26 w96 l97 ⟨p26, c26, F26, rfl, o26, f26⟩
            have z_l97 := l97.size
            have L := L.tr l97.up
            have Lq := Lq.tr l97.up
            have B1 := B1.ext l97
            have B4 := B4.ext l97
            have B7 := B7.ext l97
            have B93 := B93.ext l97
            have g26 := o26.lt
            refine c_end ⟨rfl, fun h hS => Lq, ?_⟩
            refine p0 rfl (x_move (v := .tuple _) rfl) ?_
            refine p0 rfl (x_extract rfl rfl) ?_
            refine p0 rfl (x_extract rfl rfl) ?_
            refine p0 rfl (x_extract rfl rfl) ?_
            refine pu rfl ?_ (by rintro ⟨_, _, h, _⟩; cases h)
            refine s_alloc zr35FO ?_
            intro b98 w99 lob98 hib98 l100 B98
            have z_l100 := l100.size
            have L := L.tr l100.up
            have Lq := Lq.tr l100.up
            have B1 := B1.ext l100
            have B4 := B4.ext l100
            have B7 := B7.ext l100
            have B93 := B93.ext l100
            have o26 := o26.ext l100
            refine c_end ⟨rfl, fun h hS => Lq, ?_⟩
            refine pu rfl ?_ (by rintro ⟨_, _, h, _⟩; cases h)
            refine s_storeAg rfl sz35FO rfl rfl B98 rfl rfl rfl ?_
            intro w101 l102 el102 B98
            have z_l102 := l102.size
            have L := L.fresh l102 (by omega)
            have Lq := Lq.fresh l102 (by omega)
            have B1 := B1.ne l102 (by omega)
            have B4 := B4.ne l102 (by omega)
            have B7 := B7.ne l102 (by omega)
            have B93 := B93.ne l102 (by omega)
            have o26 := o26.ne l102 (by first | assumption | exact nin_of f26 g26 (by omega))
            refine c_end ⟨rfl, fun h hS => Lq, ?_⟩
            refine pu rfl ?_ (by rintro ⟨_, _, h, _⟩; cases h)
            refine s_storeAg rfl sz42FO rfl rfl B93 rfl rfl rfl ?_
            intro w103 l104 el104 B93
            have z_l104 := l104.size
            have L := L.fresh l104 (by omega)
            have Lq := Lq.fresh l104 (by omega)
            have B1 := B1.ne l104 (by omega)
            have B4 := B4.ne l104 (by omega)
            have B7 := B7.ne l104 (by omega)
            have B98 := B98.ne l104 (by omega)
            have o26 := o26.ne l104 (by first | assumption | exact nin_of f26 g26 (by omega))
            refine c_end ⟨rfl, fun h hS => Lq, ?_⟩
            refine p0 rfl (x_assign (v := .int _ _) rfl) ?_
            refine p_nil (np_normal ?_)
            refine n_then ?_
            refine wp_seq ?_
            refine c_plan (fun wq => Exm [b4, b7] w103 wq) 10 (.cons (0, 2) (.cons (1, 1) (.cons (2, 2) (.cons (3, 1) (.cons (5, 1) (.cons (6, 2) (.cons (4, 0) (.cons (7, 0) (.cons (8, 0) (.cons (9, 2) .nil)))))))))) (by kernel_rfl) (by kernel_rfl) (Exm.drew _) ?_
            obtain ⟨w105, hwd⟩ : ∃ x, x = w103.drew := ⟨_, rfl⟩
            have l106 : Ext w103 w105 := by rw [hwd]; exact Exm.drew _
            rw [← hwd]; clear hwd
            have Lq : Exm [b4, b7] w103 w105 := l106.up
            have qB1 := B1
            have qB4 := B4
            have qB7 := B7
            have qB93 := B93
            have qB98 := B98
            have qo26 := o26
            have qL := L
            have z_l106 := l106.size
            have L := L.tr l106.up
            have B1 := B1.ext l106
            have B4 := B4.ext l106
            have B7 := B7.ext l106
            have B93 := B93.ext l106
            have B98 := B98.ext l106
            have o26 := o26.ext l106
            refine p0 rfl (x_fieldAddr fa25_0FO rfl) ?_
            refine ps rfl (fun wq hwq => x_loadB sc9FO rfl (qB1.exm hwq (by simp; omega)) rfl) ?_
            refine p0 rfl (x_fieldAddr fa35_1FO rfl) ?_
            refine ps rfl (fun wq hwq => x_loadB sc3FO rfl (qB98.exm hwq (by simp; omega)) rfl) ?_
            refine ps rfl (fun wq hwq => x_loadAgB ag42FO rfl (qB93.exm hwq (by simp; omega)) rfl) ?_
            refine p0 rfl (x_move (v := .int _ _) rfl) ?_
            refine pu rfl ?_ (by rintro ⟨_, _, h, _⟩; cases h)
            refine sr (zcall cl89FO rfl) (i_settledAt _ _ _ (by omega) (by omega)) ?_
            intro w107 l108
            have z_l108 := l108.size
            have L := L.tr l108.up
            have Lq := Lq.tr l108.up
            have B1 := B1.ext l108
            have B4 := B4.ext l108
            have B7 := B7.ext l108
            have B93 := B93.ext l108
            have B98 := B98.ext l108
            have o26 := o26.ext l108
            refine c_end ⟨rfl, fun h hS => Lq, ?_⟩
            refine pu rfl ?_ (by rintro ⟨_, _, h, _⟩; cases h)
            refine s_storeAg rfl sz25FO rfl rfl B4 rfl rfl rfl ?_
            intro w109 l110 el110 B4
            have z_l110 := l110.size
            have L := L.fresh l110 (by omega)
            have Lq := Lq.within l110 (by simp)
            have B1 := B1.ne l110 (by omega)
            have B7 := B7.ne l110 (by omega)
            have B93 := B93.ne l110 (by omega)
            have B98 := B98.ne l110 (by omega)
            have o26 := o26.ne l110 (by first | assumption | exact nin_of f26 g26 (by omega))
            refine c_end ⟨rfl, fun h hS => Lq, ?_⟩
            refine pu rfl ?_ (by rintro ⟨_, _, h, _⟩; cases h)
            refine s_storeAg rfl sz42FO rfl rfl B7 rfl rfl rfl ?_
            intro w111 l112 el112 B7
            have z_l112 := l112.size
            have L := L.fresh l112 (by omega)
            have Lq := Lq.within l112 (by simp)
            have B1 := B1.ne l112 (by omega)
            have B4 := B4.ne l112 (by omega)
            have B93 := B93.ne l112 (by omega)
            have B98 := B98.ne l112 (by omega)
            have o26 := o26.ne l112 (by first | assumption | exact nin_of f26 g26 (by omega))
            refine c_end ⟨rfl, fun h hS => Lq, ?_⟩
            refine p0 rfl (x_assign (v := .int _ _) rfl) ?_
            refine p_nil (np_normal ?_)
            refine n_then ?_
            refine wp_ret ?_
            refine f_rets3 rfl (ro_cell rfl ag25FO B4 rfl) (ro_cell rfl ag42FO B7 rfl) (ro_tmp rfl) ?_
            obtain ⟨e1, e2, e3, e4, e5, e6, e7, e8⟩ := fh_yes (s := s) (c := ca) (t := t) ⟨h11, h15⟩
            rw [e1, e2, e3, e4, e5, e6, e7, e8, ← hpl]
            exact ⟨_, rfl, L, _, _, _, rfl, o26, f26.mono (by omega)⟩
          · refine pu rfl ?_ (by rintro ⟨_, _, h, _⟩; cases h)
            refine s_alloc zr35FO ?_
            intro b113 w114 lob113 hib113 l115 B113
            have z_l115 := l115.size
            have L := L.tr l115.up
            have Lq := Lq.tr l115.up
            have B1 := B1.ext l115
            have B4 := B4.ext l115
            have B7 := B7.ext l115
            have B93 := B93.ext l115
            refine c_end ⟨rfl, fun h hS => Lq, ?_⟩
            refine pu rfl ?_ (by rintro ⟨_, _, h, _⟩; cases h)
            refine sp (zcall cl23FO rfl) (i_readHeader _ _ _ (by omega)) ?_
            rintro v26 w116 l117 ⟨p26, c26, F26, rfl, o26, f26⟩
            have z_l117 := l117.size
            have L := L.tr l117.up
            have Lq := Lq.tr l117.up
            have B1 := B1.ext l117
            have B4 := B4.ext l117
            have B7 := B7.ext l117
            have B93 := B93.ext l117
            have B113 := B113.ext l117
            have g26 := o26.lt
            refine c_end ⟨rfl, fun h hS => Lq, ?_⟩
            refine p0 rfl (x_move (v := .tuple _) rfl) ?_
            refine p0 rfl (x_extract rfl rfl) ?_
            refine p0 rfl (x_extract rfl rfl) ?_
            refine p0 rfl (x_extract rfl rfl) ?_
            refine pu rfl ?_ (by rintro ⟨_, _, h, _⟩; cases h)
            refine s_storeAg rfl sz35FO rfl rfl B113 rfl rfl rfl ?_
            intro w118 l119 el119 B113
            have z_l119 := l119.size
            have L := L.fresh l119 (by omega)
            have Lq := Lq.fresh l119 (by omega)
            have B1 := B1.ne l119 (by omega)
            have B4 := B4.ne l119 (by omega)
            have B7 := B7.ne l119 (by omega)
            have B93 := B93.ne l119 (by omega)
            have o26 := o26.ne l119 (by first | assumption | exact nin_of f26 g26 (by omega))
            refine c_end ⟨rfl, fun h hS => Lq, ?_⟩
            refine pu rfl ?_ (by rintro ⟨_, _, h, _⟩; cases h)
            refine s_storeAg rfl sz42FO rfl rfl B93 rfl rfl rfl ?_
            intro w120 l121 el121 B93
            have z_l121 := l121.size
            have L := L.fresh l121 (by omega)
            have Lq := Lq.fresh l121 (by omega)
            have B1 := B1.ne l121 (by omega)
            have B4 := B4.ne l121 (by omega)
            have B7 := B7.ne l121 (by omega)
            have B113 := B113.ne l121 (by omega)
            have o26 := o26.ne l121 (by first | assumption | exact nin_of f26 g26 (by omega))
            refine c_end ⟨rfl, fun h hS => Lq, ?_⟩
            refine p0 rfl (x_assign (v := .int _ _) rfl) ?_
            refine p_nil (np_normal ?_)
            refine n_then ?_
            refine wp_seq ?_
            refine c_plan (fun wq => Exm [b4, b7] w120 wq) 10 (.cons (0, 2) (.cons (1, 1) (.cons (2, 2) (.cons (3, 1) (.cons (5, 1) (.cons (6, 2) (.cons (4, 0) (.cons (7, 0) (.cons (8, 0) (.cons (9, 2) .nil)))))))))) (by kernel_rfl) (by kernel_rfl) (Exm.drew _) ?_
            obtain ⟨w122, hwd⟩ : ∃ x, x = w120.drew := ⟨_, rfl⟩
            have l123 : Ext w120 w122 := by rw [hwd]; exact Exm.drew _
            rw [← hwd]; clear hwd
            have Lq : Exm [b4, b7] w120 w122 := l123.up
            have qB1 := B1
            have qB4 := B4
            have qB7 := B7
            have qB93 := B93
            have qB113 := B113
            have qo26 := o26
            have qL := L
            have z_l123 := l123.size
            have L := L.tr l123.up
            have B1 := B1.ext l123
            have B4 := B4.ext l123
            have B7 := B7.ext l123
            have B93 := B93.ext l123
            have B113 := B113.ext l123
            have o26 := o26.ext l123
            refine p0 rfl (x_fieldAddr fa25_0FO rfl) ?_
            refine ps rfl (fun wq hwq => x_loadB sc9FO rfl (qB1.exm hwq (by simp; omega)) rfl) ?_
            refine p0 rfl (x_fieldAddr fa35_1FO rfl) ?_
            refine ps rfl (fun wq hwq => x_loadB sc3FO rfl (qB113.exm hwq (by simp; omega)) rfl) ?_
            refine ps rfl (fun wq hwq => x_loadAgB ag42FO rfl (qB93.exm hwq (by simp; omega)) rfl) ?_
            refine p0 rfl (x_move (v := .int _ _) rfl) ?_
            refine pu rfl ?_ (by rintro ⟨_, _, h, _⟩; cases h)
            refine sr (zcall cl89FO rfl) (i_settledAt _ _ _ (by omega) (by omega)) ?_
            intro w124 l125
            have z_l125 := l125.size
            have L := L.tr l125.up
            have Lq := Lq.tr l125.up
            have B1 := B1.ext l125
            have B4 := B4.ext l125
            have B7 := B7.ext l125
            have B93 := B93.ext l125
            have B113 := B113.ext l125
            have o26 := o26.ext l125
            refine c_end ⟨rfl, fun h hS => Lq, ?_⟩
            refine pu rfl ?_ (by rintro ⟨_, _, h, _⟩; cases h)
            refine s_storeAg rfl sz25FO rfl rfl B4 rfl rfl rfl ?_
            intro w126 l127 el127 B4
            have z_l127 := l127.size
            have L := L.fresh l127 (by omega)
            have Lq := Lq.within l127 (by simp)
            have B1 := B1.ne l127 (by omega)
            have B7 := B7.ne l127 (by omega)
            have B93 := B93.ne l127 (by omega)
            have B113 := B113.ne l127 (by omega)
            have o26 := o26.ne l127 (by first | assumption | exact nin_of f26 g26 (by omega))
            refine c_end ⟨rfl, fun h hS => Lq, ?_⟩
            refine pu rfl ?_ (by rintro ⟨_, _, h, _⟩; cases h)
            refine s_storeAg rfl sz42FO rfl rfl B7 rfl rfl rfl ?_
            intro w128 l129 el129 B7
            have z_l129 := l129.size
            have L := L.fresh l129 (by omega)
            have Lq := Lq.within l129 (by simp)
            have B1 := B1.ne l129 (by omega)
            have B4 := B4.ne l129 (by omega)
            have B93 := B93.ne l129 (by omega)
            have B113 := B113.ne l129 (by omega)
            have o26 := o26.ne l129 (by first | assumption | exact nin_of f26 g26 (by omega))
            refine c_end ⟨rfl, fun h hS => Lq, ?_⟩
            refine p0 rfl (x_assign (v := .int _ _) rfl) ?_
            refine p_nil (np_normal ?_)
            refine n_then ?_
            refine wp_ret ?_
            refine f_rets3 rfl (ro_cell rfl ag25FO B4 rfl) (ro_cell rfl ag42FO B7 rfl) (ro_tmp rfl) ?_
            obtain ⟨e1, e2, e3, e4, e5, e6, e7, e8⟩ := fh_yes (s := s) (c := ca) (t := t) ⟨h11, h15⟩
            rw [e1, e2, e3, e4, e5, e6, e7, e8, ← hpl]
            exact ⟨_, rfl, L, _, _, _, rfl, o26, f26.mono (by omega)⟩
      · refine pu rfl ?_ (by rintro ⟨_, _, h, _⟩; cases h)
        refine s_alloc zr35FO ?_
        intro b130 w131 lob130 hib130 l132 B130
        have z_l132 := l132.size
        have L := L.tr l132.up
        have Lq := Lq.tr l132.up
        have B1 := B1.ext l132
        have B4 := B4.ext l132
        have B7 := B7.ext l132
        refine c_end ⟨rfl, fun h hS => Lq, ?_⟩
        refine pfork ?_ ?_
        · refine pu rfl ?_ (by rintro ⟨_, _, h, _⟩; cases h)
          refine sr (zcall cl21FO rfl) (i_place _ _ _ (by omega)) ?_
          intro w133 l134
          have z_l134 := l134.size
          have L := L.tr l134.up
          have Lq := Lq.tr l134.up
          have B1 := B1.ext l134
          have B4 := B4.ext l134
          have B7 := B7.ext l134
          have B130 := B130.ext l134
          refine c_end ⟨rfl, fun h hS => Lq, ?_⟩
          refine p0 rfl (x_build (cs := [.string _, .int _ _]) bd35FO (pts_cons (v := .string _) rfl (pts_cons (v := .int _ _) rfl pts_nil)) rfl) ?_
          refine pfork ?_ ?_
          · refine pu rfl ?_ (by rintro ⟨_, _, h, _⟩; cases h)
            refine sp (zcall cl23FO rfl) (i_readHeader _ _ _ (by omega)) ?_
            rintro v26 w135 l136 ⟨p26, c26, F26, rfl, o26, f26⟩
            have z_l136 := l136.size
            have L := L.tr l136.up
            have Lq := Lq.tr l136.up
            have B1 := B1.ext l136
            have B4 := B4.ext l136
            have B7 := B7.ext l136
            have B130 := B130.ext l136
            have g26 := o26.lt
            refine c_end ⟨rfl, fun h hS => Lq, ?_⟩
            refine p0 rfl (x_move (v := .tuple _) rfl) ?_
            refine p0 rfl (x_extract rfl rfl) ?_
            refine p0 rfl (x_extract rfl rfl) ?_
            refine p0 rfl (x_extract rfl rfl) ?_
            refine pu rfl ?_ (by rintro ⟨_, _, h, _⟩; cases h)
            refine s_alloc zr42FO ?_
            intro b137 w138 lob137 hib137 l139 B137
            have z_l139 := l139.size
            have L := L.tr l139.up
            have Lq := Lq.tr l139.up
            have B1 := B1.ext l139
            have B4 := B4.ext l139
            have B7 := B7.ext l139
            have B130 := B130.ext l139
            have o26 := o26.ext l139
            refine c_end ⟨rfl, fun h hS => Lq, ?_⟩
            refine pu rfl ?_ (by rintro ⟨_, _, h, _⟩; cases h)
            refine s_storeAg rfl sz35FO rfl rfl B130 rfl rfl rfl ?_
            intro w140 l141 el141 B130
            have z_l141 := l141.size
            have L := L.fresh l141 (by omega)
            have Lq := Lq.fresh l141 (by omega)
            have B1 := B1.ne l141 (by omega)
            have B4 := B4.ne l141 (by omega)
            have B7 := B7.ne l141 (by omega)
            have B137 := B137.ne l141 (by omega)
            have o26 := o26.ne l141 (by first | assumption | exact nin_of f26 g26 (by omega))
            refine c_end ⟨rfl, fun h hS => Lq, ?_⟩
            refine pu rfl ?_ (by rintro ⟨_, _, h, _⟩; cases h)
            refine s_storeAg rfl sz42FO rfl rfl B137 rfl rfl rfl ?_
            intro w142 l143 el143 B137
            have z_l143 := l143.size
            have L := L.fresh l143 (by omega)
            have Lq := Lq.fresh l143 (by omega)
            have B1 := B1.ne l143 (by omega)
            have B4 := B4.ne l143 (by omega)
            have B7 := B7.ne l143 (by omega)
            have B130 := B130.ne l143 (by omega)
            have o26 := o26.ne l143 (by first | assumption | exact nin_of f26 g26 (by omega))
            refine c_end ⟨rfl, fun h hS => Lq, ?_⟩
            refine p0 rfl (x_assign (v := .int _ _) rfl) ?_
            refine p_nil (np_normal ?_)
            refine n_then ?_
            refine wp_seq ?_
            refine c_plan (fun wq => Exm [b4, b7] w142 wq) 10 (.cons (0, 2) (.cons (1, 1) (.cons (2, 2) (.cons (3, 1) (.cons (5, 1) (.cons (6, 2) (.cons (4, 0) (.cons (7, 0) (.cons (8, 0) (.cons (9, 2) .nil)))))))))) (by kernel_rfl) (by kernel_rfl) (Exm.drew _) ?_
            obtain ⟨w144, hwd⟩ : ∃ x, x = w142.drew := ⟨_, rfl⟩
            have l145 : Ext w142 w144 := by rw [hwd]; exact Exm.drew _
            rw [← hwd]; clear hwd
            have Lq : Exm [b4, b7] w142 w144 := l145.up
            have qB1 := B1
            have qB4 := B4
            have qB7 := B7
            have qB130 := B130
            have qB137 := B137
            have qo26 := o26
            have qL := L
            have z_l145 := l145.size
            have L := L.tr l145.up
            have B1 := B1.ext l145
            have B4 := B4.ext l145
            have B7 := B7.ext l145
            have B130 := B130.ext l145
            have B137 := B137.ext l145
            have o26 := o26.ext l145
            refine p0 rfl (x_fieldAddr fa25_0FO rfl) ?_
            refine ps rfl (fun wq hwq => x_loadB sc9FO rfl (qB1.exm hwq (by simp; omega)) rfl) ?_
            refine p0 rfl (x_fieldAddr fa35_1FO rfl) ?_
            refine ps rfl (fun wq hwq => x_loadB sc3FO rfl (qB130.exm hwq (by simp; omega)) rfl) ?_
            refine ps rfl (fun wq hwq => x_loadAgB ag42FO rfl (qB137.exm hwq (by simp; omega)) rfl) ?_
            refine p0 rfl (x_move (v := .int _ _) rfl) ?_
            refine pu rfl ?_ (by rintro ⟨_, _, h, _⟩; cases h)
            refine sr (zcall cl89FO rfl) (i_settledAt _ _ _ (by omega) (by omega)) ?_
            intro w146 l147
            have z_l147 := l147.size
            have L := L.tr l147.up
            have Lq := Lq.tr l147.up
            have B1 := B1.ext l147
            have B4 := B4.ext l147
            have B7 := B7.ext l147
            have B130 := B130.ext l147
            have B137 := B137.ext l147
            have o26 := o26.ext l147
            refine c_end ⟨rfl, fun h hS => Lq, ?_⟩
            refine pu rfl ?_ (by rintro ⟨_, _, h, _⟩; cases h)
            refine s_storeAg rfl sz25FO rfl rfl B4 rfl rfl rfl ?_
            intro w148 l149 el149 B4
            have z_l149 := l149.size
            have L := L.fresh l149 (by omega)
            have Lq := Lq.within l149 (by simp)
            have B1 := B1.ne l149 (by omega)
            have B7 := B7.ne l149 (by omega)
            have B130 := B130.ne l149 (by omega)
            have B137 := B137.ne l149 (by omega)
            have o26 := o26.ne l149 (by first | assumption | exact nin_of f26 g26 (by omega))
            refine c_end ⟨rfl, fun h hS => Lq, ?_⟩
            refine pu rfl ?_ (by rintro ⟨_, _, h, _⟩; cases h)
            refine s_storeAg rfl sz42FO rfl rfl B7 rfl rfl rfl ?_
            intro w150 l151 el151 B7
            have z_l151 := l151.size
            have L := L.fresh l151 (by omega)
            have Lq := Lq.within l151 (by simp)
            have B1 := B1.ne l151 (by omega)
            have B4 := B4.ne l151 (by omega)
            have B130 := B130.ne l151 (by omega)
            have B137 := B137.ne l151 (by omega)
            have o26 := o26.ne l151 (by first | assumption | exact nin_of f26 g26 (by omega))
            refine c_end ⟨rfl, fun h hS => Lq, ?_⟩
            refine p0 rfl (x_assign (v := .int _ _) rfl) ?_
            refine p_nil (np_normal ?_)
            refine n_then ?_
            refine wp_ret ?_
            refine f_rets3 rfl (ro_cell rfl ag25FO B4 rfl) (ro_cell rfl ag42FO B7 rfl) (ro_tmp rfl) ?_
            obtain ⟨e1, e2, e3, e4, e5, e6, e7, e8⟩ := fh_yes (s := s) (c := ca) (t := t) ⟨h11, h15⟩
            rw [e1, e2, e3, e4, e5, e6, e7, e8, ← hpl]
            exact ⟨_, rfl, L, _, _, _, rfl, o26, f26.mono (by omega)⟩
          · refine pu rfl ?_ (by rintro ⟨_, _, h, _⟩; cases h)
            refine s_alloc zr42FO ?_
            intro b152 w153 lob152 hib152 l154 B152
            have z_l154 := l154.size
            have L := L.tr l154.up
            have Lq := Lq.tr l154.up
            have B1 := B1.ext l154
            have B4 := B4.ext l154
            have B7 := B7.ext l154
            have B130 := B130.ext l154
            refine c_end ⟨rfl, fun h hS => Lq, ?_⟩
            refine pu rfl ?_ (by rintro ⟨_, _, h, _⟩; cases h)
            refine sp (zcall cl23FO rfl) (i_readHeader _ _ _ (by omega)) ?_
            rintro v26 w155 l156 ⟨p26, c26, F26, rfl, o26, f26⟩
            have z_l156 := l156.size
            have L := L.tr l156.up
            have Lq := Lq.tr l156.up
            have B1 := B1.ext l156
            have B4 := B4.ext l156
            have B7 := B7.ext l156
            have B130 := B130.ext l156
            have B152 := B152.ext l156
            have g26 := o26.lt
            refine c_end ⟨rfl, fun h hS => Lq, ?_⟩
            refine p0 rfl (x_move (v := .tuple _) rfl) ?_
            refine p0 rfl (x_extract rfl rfl) ?_
            refine p0 rfl (x_extract rfl rfl) ?_
            refine p0 rfl (x_extract rfl rfl) ?_
            refine pu rfl ?_ (by rintro ⟨_, _, h, _⟩; cases h)
            refine s_storeAg rfl sz35FO rfl rfl B130 rfl rfl rfl ?_
            intro w157 l158 el158 B130
            have z_l158 := l158.size
            have L := L.fresh l158 (by omega)
            have Lq := Lq.fresh l158 (by omega)
            have B1 := B1.ne l158 (by omega)
            have B4 := B4.ne l158 (by omega)
            have B7 := B7.ne l158 (by omega)
            have B152 := B152.ne l158 (by omega)
            have o26 := o26.ne l158 (by first | assumption | exact nin_of f26 g26 (by omega))
            refine c_end ⟨rfl, fun h hS => Lq, ?_⟩
            refine pu rfl ?_ (by rintro ⟨_, _, h, _⟩; cases h)
            refine s_storeAg rfl sz42FO rfl rfl B152 rfl rfl rfl ?_
            intro w159 l160 el160 B152
            have z_l160 := l160.size
            have L := L.fresh l160 (by omega)
            have Lq := Lq.fresh l160 (by omega)
            have B1 := B1.ne l160 (by omega)
            have B4 := B4.ne l160 (by omega)
            have B7 := B7.ne l160 (by omega)
            have B130 := B130.ne l160 (by omega)
            have o26 := o26.ne l160 (by first | assumption | exact nin_of f26 g26 (by omega))
            refine c_end ⟨rfl, fun h hS => Lq, ?_⟩
            refine p0 rfl (x_assign (v := .int _ _) rfl) ?_
            refine p_nil (np_normal ?_)
            refine n_then ?_
            refine wp_seq ?_
            refine c_plan (fun wq => Exm [b4, b7] w159 wq) 10 (.cons (0, 2) (.cons (1, 1) (.cons (2, 2) (.cons (3, 1) (.cons (5, 1) (.cons (6, 2) (.cons (4, 0) (.cons (7, 0) (.cons (8, 0) (.cons (9, 2) .nil)))))))))) (by kernel_rfl) (by kernel_rfl) (Exm.drew _) ?_
            obtain ⟨w161, hwd⟩ : ∃ x, x = w159.drew := ⟨_, rfl⟩
            have l162 : Ext w159 w161 := by rw [hwd]; exact Exm.drew _
            rw [← hwd]; clear hwd
            have Lq : Exm [b4, b7] w159 w161 := l162.up
            have qB1 := B1
            have qB4 := B4
            have qB7 := B7
            have qB130 := B130
            have qB152 := B152
            have qo26 := o26
            have qL := L
            have z_l162 := l162.size
            have L := L.tr l162.up
            have B1 := B1.ext l162
            have B4 := B4.ext l162
            have B7 := B7.ext l162
            have B130 := B130.ext l162
            have B152 := B152.ext l162
            have o26 := o26.ext l162
            refine p0 rfl (x_fieldAddr fa25_0FO rfl) ?_
            refine ps rfl (fun wq hwq => x_loadB sc9FO rfl (qB1.exm hwq (by simp; omega)) rfl) ?_
            refine p0 rfl (x_fieldAddr fa35_1FO rfl) ?_
            refine ps rfl (fun wq hwq => x_loadB sc3FO rfl (qB130.exm hwq (by simp; omega)) rfl) ?_
            refine ps rfl (fun wq hwq => x_loadAgB ag42FO rfl (qB152.exm hwq (by simp; omega)) rfl) ?_
            refine p0 rfl (x_move (v := .int _ _) rfl) ?_
            refine pu rfl ?_ (by rintro ⟨_, _, h, _⟩; cases h)
            refine sr (zcall cl89FO rfl) (i_settledAt _ _ _ (by omega) (by omega)) ?_
            intro w163 l164
            have z_l164 := l164.size
            have L := L.tr l164.up
            have Lq := Lq.tr l164.up
            have B1 := B1.ext l164
            have B4 := B4.ext l164
            have B7 := B7.ext l164
            have B130 := B130.ext l164
            have B152 := B152.ext l164
            have o26 := o26.ext l164
            refine c_end ⟨rfl, fun h hS => Lq, ?_⟩
            refine pu rfl ?_ (by rintro ⟨_, _, h, _⟩; cases h)
            refine s_storeAg rfl sz25FO rfl rfl B4 rfl rfl rfl ?_
            intro w165 l166 el166 B4
            have z_l166 := l166.size
            have L := L.fresh l166 (by omega)
            have Lq := Lq.within l166 (by simp)
            have B1 := B1.ne l166 (by omega)
            have B7 := B7.ne l166 (by omega)
            have B130 := B130.ne l166 (by omega)
            have B152 := B152.ne l166 (by omega)
            have o26 := o26.ne l166 (by first | assumption | exact nin_of f26 g26 (by omega))
            refine c_end ⟨rfl, fun h hS => Lq, ?_⟩
            refine pu rfl ?_ (by rintro ⟨_, _, h, _⟩; cases h)
            refine s_storeAg rfl sz42FO rfl rfl B7 rfl rfl rfl ?_
            intro w167 l168 el168 B7
            have z_l168 := l168.size
            have L := L.fresh l168 (by omega)
            have Lq := Lq.within l168 (by simp)
            have B1 := B1.ne l168 (by omega)
            have B4 := B4.ne l168 (by omega)
            have B130 := B130.ne l168 (by omega)
            have B152 := B152.ne l168 (by omega)
            have o26 := o26.ne l168 (by first | assumption | exact nin_of f26 g26 (by omega))
            refine c_end ⟨rfl, fun h hS => Lq, ?_⟩
            refine p0 rfl (x_assign (v := .int _ _) rfl) ?_
            refine p_nil (np_normal ?_)
            refine n_then ?_
            refine wp_ret ?_
            refine f_rets3 rfl (ro_cell rfl ag25FO B4 rfl) (ro_cell rfl ag42FO B7 rfl) (ro_tmp rfl) ?_
            obtain ⟨e1, e2, e3, e4, e5, e6, e7, e8⟩ := fh_yes (s := s) (c := ca) (t := t) ⟨h11, h15⟩
            rw [e1, e2, e3, e4, e5, e6, e7, e8, ← hpl]
            exact ⟨_, rfl, L, _, _, _, rfl, o26, f26.mono (by omega)⟩
        · refine pu rfl ?_ (by rintro ⟨_, _, h, _⟩; cases h)
          refine s_alloc zr42FO ?_
          intro b169 w170 lob169 hib169 l171 B169
          have z_l171 := l171.size
          have L := L.tr l171.up
          have Lq := Lq.tr l171.up
          have B1 := B1.ext l171
          have B4 := B4.ext l171
          have B7 := B7.ext l171
          have B130 := B130.ext l171
          refine c_end ⟨rfl, fun h hS => Lq, ?_⟩
          refine pu rfl ?_ (by rintro ⟨_, _, h, _⟩; cases h)
          refine sr (zcall cl21FO rfl) (i_place _ _ _ (by omega)) ?_
          intro w172 l173
          have z_l173 := l173.size
          have L := L.tr l173.up
          have Lq := Lq.tr l173.up
          have B1 := B1.ext l173
          have B4 := B4.ext l173
          have B7 := B7.ext l173
          have B130 := B130.ext l173
          have B169 := B169.ext l173
          refine c_end ⟨rfl, fun h hS => Lq, ?_⟩
          refine p0 rfl (x_build (cs := [.string _, .int _ _]) bd35FO (pts_cons (v := .string _) rfl (pts_cons (v := .int _ _) rfl pts_nil)) rfl) ?_
          refine pu rfl ?_ (by rintro ⟨_, _, h, _⟩; cases h)
          refine sp (zcall cl23FO rfl) (i_readHeader _ _ _ (by omega)) ?_
          rintro v26 w174 l175 ⟨p26, c26, F26, rfl, o26, f26⟩
          have z_l175 := l175.size
          have L := L.tr l175.up
          have Lq := Lq.tr l175.up
          have B1 := B1.ext l175
          have B4 := B4.ext l175
          have B7 := B7.ext l175
          have B130 := B130.ext l175
          have B169 := B169.ext l175
          have g26 := o26.lt
          refine c_end ⟨rfl, fun h hS => Lq, ?_⟩
          refine p0 rfl (x_move (v := .tuple _) rfl) ?_
          refine p0 rfl (x_extract rfl rfl) ?_
          refine p0 rfl (x_extract rfl rfl) ?_
          refine p0 rfl (x_extract rfl rfl) ?_
          refine pu rfl ?_ (by rintro ⟨_, _, h, _⟩; cases h)
          refine s_storeAg rfl sz35FO rfl rfl B130 rfl rfl rfl ?_
          intro w176 l177 el177 B130
          have z_l177 := l177.size
          have L := L.fresh l177 (by omega)
          have Lq := Lq.fresh l177 (by omega)
          have B1 := B1.ne l177 (by omega)
          have B4 := B4.ne l177 (by omega)
          have B7 := B7.ne l177 (by omega)
          have B169 := B169.ne l177 (by omega)
          have o26 := o26.ne l177 (by first | assumption | exact nin_of f26 g26 (by omega))
          refine c_end ⟨rfl, fun h hS => Lq, ?_⟩
          refine pu rfl ?_ (by rintro ⟨_, _, h, _⟩; cases h)
          refine s_storeAg rfl sz42FO rfl rfl B169 rfl rfl rfl ?_
          intro w178 l179 el179 B169
          have z_l179 := l179.size
          have L := L.fresh l179 (by omega)
          have Lq := Lq.fresh l179 (by omega)
          have B1 := B1.ne l179 (by omega)
          have B4 := B4.ne l179 (by omega)
          have B7 := B7.ne l179 (by omega)
          have B130 := B130.ne l179 (by omega)
          have o26 := o26.ne l179 (by first | assumption | exact nin_of f26 g26 (by omega))
          refine c_end ⟨rfl, fun h hS => Lq, ?_⟩
          refine p0 rfl (x_assign (v := .int _ _) rfl) ?_
          refine p_nil (np_normal ?_)
          refine n_then ?_
          refine wp_seq ?_
          refine c_plan (fun wq => Exm [b4, b7] w178 wq) 10 (.cons (0, 2) (.cons (1, 1) (.cons (2, 2) (.cons (3, 1) (.cons (5, 1) (.cons (6, 2) (.cons (4, 0) (.cons (7, 0) (.cons (8, 0) (.cons (9, 2) .nil)))))))))) (by kernel_rfl) (by kernel_rfl) (Exm.drew _) ?_
          obtain ⟨w180, hwd⟩ : ∃ x, x = w178.drew := ⟨_, rfl⟩
          have l181 : Ext w178 w180 := by rw [hwd]; exact Exm.drew _
          rw [← hwd]; clear hwd
          have Lq : Exm [b4, b7] w178 w180 := l181.up
          have qB1 := B1
          have qB4 := B4
          have qB7 := B7
          have qB130 := B130
          have qB169 := B169
          have qo26 := o26
          have qL := L
          have z_l181 := l181.size
          have L := L.tr l181.up
          have B1 := B1.ext l181
          have B4 := B4.ext l181
          have B7 := B7.ext l181
          have B130 := B130.ext l181
          have B169 := B169.ext l181
          have o26 := o26.ext l181
          refine p0 rfl (x_fieldAddr fa25_0FO rfl) ?_
          refine ps rfl (fun wq hwq => x_loadB sc9FO rfl (qB1.exm hwq (by simp; omega)) rfl) ?_
          refine p0 rfl (x_fieldAddr fa35_1FO rfl) ?_
          refine ps rfl (fun wq hwq => x_loadB sc3FO rfl (qB130.exm hwq (by simp; omega)) rfl) ?_
          refine ps rfl (fun wq hwq => x_loadAgB ag42FO rfl (qB169.exm hwq (by simp; omega)) rfl) ?_
          refine p0 rfl (x_move (v := .int _ _) rfl) ?_
          refine pu rfl ?_ (by rintro ⟨_, _, h, _⟩; cases h)
          refine sr (zcall cl89FO rfl) (i_settledAt _ _ _ (by omega) (by omega)) ?_
          intro w182 l183
          have z_l183 := l183.size
          have L := L.tr l183.up
          have Lq := Lq.tr l183.up
          have B1 := B1.ext l183
          have B4 := B4.ext l183
          have B7 := B7.ext l183
          have B130 := B130.ext l183
          have B169 := B169.ext l183
          have o26 := o26.ext l183
          refine c_end ⟨rfl, fun h hS => Lq, ?_⟩
          refine pu rfl ?_ (by rintro ⟨_, _, h, _⟩; cases h)
          refine s_storeAg rfl sz25FO rfl rfl B4 rfl rfl rfl ?_
          intro w184 l185 el185 B4
          have z_l185 := l185.size
          have L := L.fresh l185 (by omega)
          have Lq := Lq.within l185 (by simp)
          have B1 := B1.ne l185 (by omega)
          have B7 := B7.ne l185 (by omega)
          have B130 := B130.ne l185 (by omega)
          have B169 := B169.ne l185 (by omega)
          have o26 := o26.ne l185 (by first | assumption | exact nin_of f26 g26 (by omega))
          refine c_end ⟨rfl, fun h hS => Lq, ?_⟩
          refine pu rfl ?_ (by rintro ⟨_, _, h, _⟩; cases h)
          refine s_storeAg rfl sz42FO rfl rfl B7 rfl rfl rfl ?_
          intro w186 l187 el187 B7
          have z_l187 := l187.size
          have L := L.fresh l187 (by omega)
          have Lq := Lq.within l187 (by simp)
          have B1 := B1.ne l187 (by omega)
          have B4 := B4.ne l187 (by omega)
          have B130 := B130.ne l187 (by omega)
          have B169 := B169.ne l187 (by omega)
          have o26 := o26.ne l187 (by first | assumption | exact nin_of f26 g26 (by omega))
          refine c_end ⟨rfl, fun h hS => Lq, ?_⟩
          refine p0 rfl (x_assign (v := .int _ _) rfl) ?_
          refine p_nil (np_normal ?_)
          refine n_then ?_
          refine wp_ret ?_
          refine f_rets3 rfl (ro_cell rfl ag25FO B4 rfl) (ro_cell rfl ag42FO B7 rfl) (ro_tmp rfl) ?_
          obtain ⟨e1, e2, e3, e4, e5, e6, e7, e8⟩ := fh_yes (s := s) (c := ca) (t := t) ⟨h11, h15⟩
          rw [e1, e2, e3, e4, e5, e6, e7, e8, ← hpl]
          exact ⟨_, rfl, L, _, _, _, rfl, o26, f26.mono (by omega)⟩
      · refine pu rfl ?_ (by rintro ⟨_, _, h, _⟩; cases h)
        refine s_alloc zr42FO ?_
        intro b188 w189 lob188 hib188 l190 B188
        have z_l190 := l190.size
        have L := L.tr l190.up
        have Lq := Lq.tr l190.up
        have B1 := B1.ext l190
        have B4 := B4.ext l190
        have B7 := B7.ext l190
        refine c_end ⟨rfl, fun h hS => Lq, ?_⟩
        refine pfork ?_ ?_
        · refine pu rfl ?_ (by rintro ⟨_, _, h, _⟩; cases h)
          refine sr (zcall cl21FO rfl) (i_place _ _ _ (by omega)) ?_
          intro w191 l192
          have z_l192 := l192.size
          have L := L.tr l192.up
          have Lq := Lq.tr l192.up
          have B1 := B1.ext l192
          have B4 := B4.ext l192
          have B7 := B7.ext l192
          have B188 := B188.ext l192
          refine c_end ⟨rfl, fun h hS => Lq, ?_⟩
          refine p0 rfl (x_build (cs := [.string _, .int _ _]) bd35FO (pts_cons (v := .string _) rfl (pts_cons (v := .int _ _) rfl pts_nil)) rfl) ?_
          refine pfork ?_ ?_
          · refine pu rfl ?_ (by rintro ⟨_, _, h, _⟩; cases h)
            refine sp (zcall cl23FO rfl) (i_readHeader _ _ _ (by omega)) ?_
            rintro v26 w193 l194 ⟨p26, c26, F26, rfl, o26, f26⟩
            have z_l194 := l194.size
            have L := L.tr l194.up
            have Lq := Lq.tr l194.up
            have B1 := B1.ext l194
            have B4 := B4.ext l194
            have B7 := B7.ext l194
            have B188 := B188.ext l194
            have g26 := o26.lt
            refine c_end ⟨rfl, fun h hS => Lq, ?_⟩
            refine p0 rfl (x_move (v := .tuple _) rfl) ?_
            refine p0 rfl (x_extract rfl rfl) ?_
            refine p0 rfl (x_extract rfl rfl) ?_
            refine p0 rfl (x_extract rfl rfl) ?_
            refine pu rfl ?_ (by rintro ⟨_, _, h, _⟩; cases h)
            refine s_alloc zr35FO ?_
            intro b195 w196 lob195 hib195 l197 B195
            have z_l197 := l197.size
            have L := L.tr l197.up
            have Lq := Lq.tr l197.up
            have B1 := B1.ext l197
            have B4 := B4.ext l197
            have B7 := B7.ext l197
            have B188 := B188.ext l197
            have o26 := o26.ext l197
            refine c_end ⟨rfl, fun h hS => Lq, ?_⟩
            refine pu rfl ?_ (by rintro ⟨_, _, h, _⟩; cases h)
            refine s_storeAg rfl sz35FO rfl rfl B195 rfl rfl rfl ?_
            intro w198 l199 el199 B195
            have z_l199 := l199.size
            have L := L.fresh l199 (by omega)
            have Lq := Lq.fresh l199 (by omega)
            have B1 := B1.ne l199 (by omega)
            have B4 := B4.ne l199 (by omega)
            have B7 := B7.ne l199 (by omega)
            have B188 := B188.ne l199 (by omega)
            have o26 := o26.ne l199 (by first | assumption | exact nin_of f26 g26 (by omega))
            refine c_end ⟨rfl, fun h hS => Lq, ?_⟩
            refine pu rfl ?_ (by rintro ⟨_, _, h, _⟩; cases h)
            refine s_storeAg rfl sz42FO rfl rfl B188 rfl rfl rfl ?_
            intro w200 l201 el201 B188
            have z_l201 := l201.size
            have L := L.fresh l201 (by omega)
            have Lq := Lq.fresh l201 (by omega)
            have B1 := B1.ne l201 (by omega)
            have B4 := B4.ne l201 (by omega)
            have B7 := B7.ne l201 (by omega)
            have B195 := B195.ne l201 (by omega)
            have o26 := o26.ne l201 (by first | assumption | exact nin_of f26 g26 (by omega))
            refine c_end ⟨rfl, fun h hS => Lq, ?_⟩
            refine p0 rfl (x_assign (v := .int _ _) rfl) ?_
            refine p_nil (np_normal ?_)
            refine n_then ?_
            refine wp_seq ?_
            refine c_plan (fun wq => Exm [b4, b7] w200 wq) 10 (.cons (0, 2) (.cons (1, 1) (.cons (2, 2) (.cons (3, 1) (.cons (5, 1) (.cons (6, 2) (.cons (4, 0) (.cons (7, 0) (.cons (8, 0) (.cons (9, 2) .nil)))))))))) (by kernel_rfl) (by kernel_rfl) (Exm.drew _) ?_
            obtain ⟨w202, hwd⟩ : ∃ x, x = w200.drew := ⟨_, rfl⟩
            have l203 : Ext w200 w202 := by rw [hwd]; exact Exm.drew _
            rw [← hwd]; clear hwd
            have Lq : Exm [b4, b7] w200 w202 := l203.up
            have qB1 := B1
            have qB4 := B4
            have qB7 := B7
            have qB188 := B188
            have qB195 := B195
            have qo26 := o26
            have qL := L
            have z_l203 := l203.size
            have L := L.tr l203.up
            have B1 := B1.ext l203
            have B4 := B4.ext l203
            have B7 := B7.ext l203
            have B188 := B188.ext l203
            have B195 := B195.ext l203
            have o26 := o26.ext l203
            refine p0 rfl (x_fieldAddr fa25_0FO rfl) ?_
            refine ps rfl (fun wq hwq => x_loadB sc9FO rfl (qB1.exm hwq (by simp; omega)) rfl) ?_
            refine p0 rfl (x_fieldAddr fa35_1FO rfl) ?_
            refine ps rfl (fun wq hwq => x_loadB sc3FO rfl (qB195.exm hwq (by simp; omega)) rfl) ?_
            refine ps rfl (fun wq hwq => x_loadAgB ag42FO rfl (qB188.exm hwq (by simp; omega)) rfl) ?_
            refine p0 rfl (x_move (v := .int _ _) rfl) ?_
            refine pu rfl ?_ (by rintro ⟨_, _, h, _⟩; cases h)
            refine sr (zcall cl89FO rfl) (i_settledAt _ _ _ (by omega) (by omega)) ?_
            intro w204 l205
            have z_l205 := l205.size
            have L := L.tr l205.up
            have Lq := Lq.tr l205.up
            have B1 := B1.ext l205
            have B4 := B4.ext l205
            have B7 := B7.ext l205
            have B188 := B188.ext l205
            have B195 := B195.ext l205
            have o26 := o26.ext l205
            refine c_end ⟨rfl, fun h hS => Lq, ?_⟩
            refine pu rfl ?_ (by rintro ⟨_, _, h, _⟩; cases h)
            refine s_storeAg rfl sz25FO rfl rfl B4 rfl rfl rfl ?_
            intro w206 l207 el207 B4
            have z_l207 := l207.size
            have L := L.fresh l207 (by omega)
            have Lq := Lq.within l207 (by simp)
            have B1 := B1.ne l207 (by omega)
            have B7 := B7.ne l207 (by omega)
            have B188 := B188.ne l207 (by omega)
            have B195 := B195.ne l207 (by omega)
            have o26 := o26.ne l207 (by first | assumption | exact nin_of f26 g26 (by omega))
            refine c_end ⟨rfl, fun h hS => Lq, ?_⟩
            refine pu rfl ?_ (by rintro ⟨_, _, h, _⟩; cases h)
            refine s_storeAg rfl sz42FO rfl rfl B7 rfl rfl rfl ?_
            intro w208 l209 el209 B7
            have z_l209 := l209.size
            have L := L.fresh l209 (by omega)
            have Lq := Lq.within l209 (by simp)
            have B1 := B1.ne l209 (by omega)
            have B4 := B4.ne l209 (by omega)
            have B188 := B188.ne l209 (by omega)
            have B195 := B195.ne l209 (by omega)
            have o26 := o26.ne l209 (by first | assumption | exact nin_of f26 g26 (by omega))
            refine c_end ⟨rfl, fun h hS => Lq, ?_⟩
            refine p0 rfl (x_assign (v := .int _ _) rfl) ?_
            refine p_nil (np_normal ?_)
            refine n_then ?_
            refine wp_ret ?_
            refine f_rets3 rfl (ro_cell rfl ag25FO B4 rfl) (ro_cell rfl ag42FO B7 rfl) (ro_tmp rfl) ?_
            obtain ⟨e1, e2, e3, e4, e5, e6, e7, e8⟩ := fh_yes (s := s) (c := ca) (t := t) ⟨h11, h15⟩
            rw [e1, e2, e3, e4, e5, e6, e7, e8, ← hpl]
            exact ⟨_, rfl, L, _, _, _, rfl, o26, f26.mono (by omega)⟩
          · refine pu rfl ?_ (by rintro ⟨_, _, h, _⟩; cases h)
            refine s_alloc zr35FO ?_
            intro b210 w211 lob210 hib210 l212 B210
            have z_l212 := l212.size
            have L := L.tr l212.up
            have Lq := Lq.tr l212.up
            have B1 := B1.ext l212
            have B4 := B4.ext l212
            have B7 := B7.ext l212
            have B188 := B188.ext l212
            refine c_end ⟨rfl, fun h hS => Lq, ?_⟩
            refine pu rfl ?_ (by rintro ⟨_, _, h, _⟩; cases h)
            refine sp (zcall cl23FO rfl) (i_readHeader _ _ _ (by omega)) ?_
            rintro v26 w213 l214 ⟨p26, c26, F26, rfl, o26, f26⟩
            have z_l214 := l214.size
            have L := L.tr l214.up
            have Lq := Lq.tr l214.up
            have B1 := B1.ext l214
            have B4 := B4.ext l214
            have B7 := B7.ext l214
            have B188 := B188.ext l214
            have B210 := B210.ext l214
            have g26 := o26.lt
            refine c_end ⟨rfl, fun h hS => Lq, ?_⟩
            refine p0 rfl (x_move (v := .tuple _) rfl) ?_
            refine p0 rfl (x_extract rfl rfl) ?_
            refine p0 rfl (x_extract rfl rfl) ?_
            refine p0 rfl (x_extract rfl rfl) ?_
            refine pu rfl ?_ (by rintro ⟨_, _, h, _⟩; cases h)
            refine s_storeAg rfl sz35FO rfl rfl B210 rfl rfl rfl ?_
            intro w215 l216 el216 B210
            have z_l216 := l216.size
            have L := L.fresh l216 (by omega)
            have Lq := Lq.fresh l216 (by omega)
            have B1 := B1.ne l216 (by omega)
            have B4 := B4.ne l216 (by omega)
            have B7 := B7.ne l216 (by omega)
            have B188 := B188.ne l216 (by omega)
            have o26 := o26.ne l216 (by first | assumption | exact nin_of f26 g26 (by omega))
            refine c_end ⟨rfl, fun h hS => Lq, ?_⟩
            refine pu rfl ?_ (by rintro ⟨_, _, h, _⟩; cases h)
            refine s_storeAg rfl sz42FO rfl rfl B188 rfl rfl rfl ?_
            intro w217 l218 el218 B188
            have z_l218 := l218.size
            have L := L.fresh l218 (by omega)
            have Lq := Lq.fresh l218 (by omega)
            have B1 := B1.ne l218 (by omega)
            have B4 := B4.ne l218 (by omega)
            have B7 := B7.ne l218 (by omega)
            have B210 := B210.ne l218 (by omega)
            have o26 := o26.ne l218 (by first | assumption | exact nin_of f26 g26 (by omega))
            refine c_end ⟨rfl, fun h hS => Lq, ?_⟩
            refine p0 rfl (x_assign (v := .int _ _) rfl) ?_
            refine p_nil (np_normal ?_)
            refine n_then ?_
            refine wp_seq ?_
            refine c_plan (fun wq => Exm [b4, b7] w217 wq) 10 (.cons (0, 2) (.cons (1, 1) (.cons (2, 2) (.cons (3, 1) (.cons (5, 1) (.cons (6, 2) (.cons (4, 0) (.cons (7, 0) (.cons (8, 0) (.cons (9, 2) .nil)))))))))) (by kernel_rfl) (by kernel_rfl) (Exm.drew _) ?_
            obtain ⟨w219, hwd⟩ : ∃ x, x = w217.drew := ⟨_, rfl⟩
            have l220 : Ext w217 w219 := by rw [hwd]; exact Exm.drew _
            rw [← hwd]; clear hwd
            have Lq : Exm [b4, b7] w217 w219 := l220.up
            have qB1 := B1
            have qB4 := B4
            have qB7 := B7
            have qB188 := B188
            have qB210 := B210
            have qo26 := o26
            have qL := L
            have z_l220 := l220.size
            have L := L.tr l220.up
            have B1 := B1.ext l220
            have B4 := B4.ext l220
            have B7 := B7.ext l220
            have B188 := B188.ext l220
            have B210 := B210.ext l220
            have o26 := o26.ext l220
            refine p0 rfl (x_fieldAddr fa25_0FO rfl) ?_
            refine ps rfl (fun wq hwq => x_loadB sc9FO rfl (qB1.exm hwq (by simp; omega)) rfl) ?_
            refine p0 rfl (x_fieldAddr fa35_1FO rfl) ?_
            refine ps rfl (fun wq hwq => x_loadB sc3FO rfl (qB210.exm hwq (by simp; omega)) rfl) ?_
            refine ps rfl (fun wq hwq => x_loadAgB ag42FO rfl (qB188.exm hwq (by simp; omega)) rfl) ?_
            refine p0 rfl (x_move (v := .int _ _) rfl) ?_
            refine pu rfl ?_ (by rintro ⟨_, _, h, _⟩; cases h)
            refine sr (zcall cl89FO rfl) (i_settledAt _ _ _ (by omega) (by omega)) ?_
            intro w221 l222
            have z_l222 := l222.size
            have L := L.tr l222.up
            have Lq := Lq.tr l222.up
            have B1 := B1.ext l222
            have B4 := B4.ext l222
            have B7 := B7.ext l222
            have B188 := B188.ext l222
            have B210 := B210.ext l222
            have o26 := o26.ext l222
            refine c_end ⟨rfl, fun h hS => Lq, ?_⟩
            refine pu rfl ?_ (by rintro ⟨_, _, h, _⟩; cases h)
            refine s_storeAg rfl sz25FO rfl rfl B4 rfl rfl rfl ?_
            intro w223 l224 el224 B4
            have z_l224 := l224.size
            have L := L.fresh l224 (by omega)
            have Lq := Lq.within l224 (by simp)
            have B1 := B1.ne l224 (by omega)
            have B7 := B7.ne l224 (by omega)
            have B188 := B188.ne l224 (by omega)
            have B210 := B210.ne l224 (by omega)
            have o26 := o26.ne l224 (by first | assumption | exact nin_of f26 g26 (by omega))
            refine c_end ⟨rfl, fun h hS => Lq, ?_⟩
            refine pu rfl ?_ (by rintro ⟨_, _, h, _⟩; cases h)
            refine s_storeAg rfl sz42FO rfl rfl B7 rfl rfl rfl ?_
            intro w225 l226 el226 B7
            have z_l226 := l226.size
            have L := L.fresh l226 (by omega)
            have Lq := Lq.within l226 (by simp)
            have B1 := B1.ne l226 (by omega)
            have B4 := B4.ne l226 (by omega)
            have B188 := B188.ne l226 (by omega)
            have B210 := B210.ne l226 (by omega)
            have o26 := o26.ne l226 (by first | assumption | exact nin_of f26 g26 (by omega))
            refine c_end ⟨rfl, fun h hS => Lq, ?_⟩
            refine p0 rfl (x_assign (v := .int _ _) rfl) ?_
            refine p_nil (np_normal ?_)
            refine n_then ?_
            refine wp_ret ?_
            refine f_rets3 rfl (ro_cell rfl ag25FO B4 rfl) (ro_cell rfl ag42FO B7 rfl) (ro_tmp rfl) ?_
            obtain ⟨e1, e2, e3, e4, e5, e6, e7, e8⟩ := fh_yes (s := s) (c := ca) (t := t) ⟨h11, h15⟩
            rw [e1, e2, e3, e4, e5, e6, e7, e8, ← hpl]
            exact ⟨_, rfl, L, _, _, _, rfl, o26, f26.mono (by omega)⟩
        · refine pu rfl ?_ (by rintro ⟨_, _, h, _⟩; cases h)
          refine s_alloc zr35FO ?_
          intro b227 w228 lob227 hib227 l229 B227
          have z_l229 := l229.size
          have L := L.tr l229.up
          have Lq := Lq.tr l229.up
          have B1 := B1.ext l229
          have B4 := B4.ext l229
          have B7 := B7.ext l229
          have B188 := B188.ext l229
          refine c_end ⟨rfl, fun h hS => Lq, ?_⟩
          refine pu rfl ?_ (by rintro ⟨_, _, h, _⟩; cases h)
          refine sr (zcall cl21FO rfl) (i_place _ _ _ (by omega)) ?_
          intro w230 l231
          have z_l231 := l231.size
          have L := L.tr l231.up
          have Lq := Lq.tr l231.up
          have B1 := B1.ext l231
          have B4 := B4.ext l231
          have B7 := B7.ext l231
          have B188 := B188.ext l231
          have B227 := B227.ext l231
          refine c_end ⟨rfl, fun h hS => Lq, ?_⟩
          refine p0 rfl (x_build (cs := [.string _, .int _ _]) bd35FO (pts_cons (v := .string _) rfl (pts_cons (v := .int _ _) rfl pts_nil)) rfl) ?_
          refine pu rfl ?_ (by rintro ⟨_, _, h, _⟩; cases h)
          refine sp (zcall cl23FO rfl) (i_readHeader _ _ _ (by omega)) ?_
          rintro v26 w232 l233 ⟨p26, c26, F26, rfl, o26, f26⟩
          have z_l233 := l233.size
          have L := L.tr l233.up
          have Lq := Lq.tr l233.up
          have B1 := B1.ext l233
          have B4 := B4.ext l233
          have B7 := B7.ext l233
          have B188 := B188.ext l233
          have B227 := B227.ext l233
          have g26 := o26.lt
          refine c_end ⟨rfl, fun h hS => Lq, ?_⟩
          refine p0 rfl (x_move (v := .tuple _) rfl) ?_
          refine p0 rfl (x_extract rfl rfl) ?_
          refine p0 rfl (x_extract rfl rfl) ?_
          refine p0 rfl (x_extract rfl rfl) ?_
          refine pu rfl ?_ (by rintro ⟨_, _, h, _⟩; cases h)
          refine s_storeAg rfl sz35FO rfl rfl B227 rfl rfl rfl ?_
          intro w234 l235 el235 B227
          have z_l235 := l235.size
          have L := L.fresh l235 (by omega)
          have Lq := Lq.fresh l235 (by omega)
          have B1 := B1.ne l235 (by omega)
          have B4 := B4.ne l235 (by omega)
          have B7 := B7.ne l235 (by omega)
          have B188 := B188.ne l235 (by omega)
          have o26 := o26.ne l235 (by first | assumption | exact nin_of f26 g26 (by omega))
          refine c_end ⟨rfl, fun h hS => Lq, ?_⟩
          refine pu rfl ?_ (by rintro ⟨_, _, h, _⟩; cases h)
          refine s_storeAg rfl sz42FO rfl rfl B188 rfl rfl rfl ?_
          intro w236 l237 el237 B188
          have z_l237 := l237.size
          have L := L.fresh l237 (by omega)
          have Lq := Lq.fresh l237 (by omega)
          have B1 := B1.ne l237 (by omega)
          have B4 := B4.ne l237 (by omega)
          have B7 := B7.ne l237 (by omega)
          have B227 := B227.ne l237 (by omega)
          have o26 := o26.ne l237 (by first | assumption | exact nin_of f26 g26 (by omega))
          refine c_end ⟨rfl, fun h hS => Lq, ?_⟩
          refine p0 rfl (x_assign (v := .int _ _) rfl) ?_
          refine p_nil (np_normal ?_)
          refine n_then ?_
          refine wp_seq ?_
          refine c_plan (fun wq => Exm [b4, b7] w236 wq) 10 (.cons (0, 2) (.cons (1, 1) (.cons (2, 2) (.cons (3, 1) (.cons (5, 1) (.cons (6, 2) (.cons (4, 0) (.cons (7, 0) (.cons (8, 0) (.cons (9, 2) .nil)))))))))) (by kernel_rfl) (by kernel_rfl) (Exm.drew _) ?_
          obtain ⟨w238, hwd⟩ : ∃ x, x = w236.drew := ⟨_, rfl⟩
          have l239 : Ext w236 w238 := by rw [hwd]; exact Exm.drew _
          rw [← hwd]; clear hwd
          have Lq : Exm [b4, b7] w236 w238 := l239.up
          have qB1 := B1
          have qB4 := B4
          have qB7 := B7
          have qB188 := B188
          have qB227 := B227
          have qo26 := o26
          have qL := L
          have z_l239 := l239.size
          have L := L.tr l239.up
          have B1 := B1.ext l239
          have B4 := B4.ext l239
          have B7 := B7.ext l239
          have B188 := B188.ext l239
          have B227 := B227.ext l239
          have o26 := o26.ext l239
          refine p0 rfl (x_fieldAddr fa25_0FO rfl) ?_
          refine ps rfl (fun wq hwq => x_loadB sc9FO rfl (qB1.exm hwq (by simp; omega)) rfl) ?_
          refine p0 rfl (x_fieldAddr fa35_1FO rfl) ?_
          refine ps rfl (fun wq hwq => x_loadB sc3FO rfl (qB227.exm hwq (by simp; omega)) rfl) ?_
          refine ps rfl (fun wq hwq => x_loadAgB ag42FO rfl (qB188.exm hwq (by simp; omega)) rfl) ?_
          refine p0 rfl (x_move (v := .int _ _) rfl) ?_
          refine pu rfl ?_ (by rintro ⟨_, _, h, _⟩; cases h)
          refine sr (zcall cl89FO rfl) (i_settledAt _ _ _ (by omega) (by omega)) ?_
          intro w240 l241
          have z_l241 := l241.size
          have L := L.tr l241.up
          have Lq := Lq.tr l241.up
          have B1 := B1.ext l241
          have B4 := B4.ext l241
          have B7 := B7.ext l241
          have B188 := B188.ext l241
          have B227 := B227.ext l241
          have o26 := o26.ext l241
          refine c_end ⟨rfl, fun h hS => Lq, ?_⟩
          refine pu rfl ?_ (by rintro ⟨_, _, h, _⟩; cases h)
          refine s_storeAg rfl sz25FO rfl rfl B4 rfl rfl rfl ?_
          intro w242 l243 el243 B4
          have z_l243 := l243.size
          have L := L.fresh l243 (by omega)
          have Lq := Lq.within l243 (by simp)
          have B1 := B1.ne l243 (by omega)
          have B7 := B7.ne l243 (by omega)
          have B188 := B188.ne l243 (by omega)
          have B227 := B227.ne l243 (by omega)
          have o26 := o26.ne l243 (by first | assumption | exact nin_of f26 g26 (by omega))
          refine c_end ⟨rfl, fun h hS => Lq, ?_⟩
          refine pu rfl ?_ (by rintro ⟨_, _, h, _⟩; cases h)
          refine s_storeAg rfl sz42FO rfl rfl B7 rfl rfl rfl ?_
          intro w244 l245 el245 B7
          have z_l245 := l245.size
          have L := L.fresh l245 (by omega)
          have Lq := Lq.within l245 (by simp)
          have B1 := B1.ne l245 (by omega)
          have B4 := B4.ne l245 (by omega)
          have B188 := B188.ne l245 (by omega)
          have B227 := B227.ne l245 (by omega)
          have o26 := o26.ne l245 (by first | assumption | exact nin_of f26 g26 (by omega))
          refine c_end ⟨rfl, fun h hS => Lq, ?_⟩
          refine p0 rfl (x_assign (v := .int _ _) rfl) ?_
          refine p_nil (np_normal ?_)
          refine n_then ?_
          refine wp_ret ?_
          refine f_rets3 rfl (ro_cell rfl ag25FO B4 rfl) (ro_cell rfl ag42FO B7 rfl) (ro_tmp rfl) ?_
          obtain ⟨e1, e2, e3, e4, e5, e6, e7, e8⟩ := fh_yes (s := s) (c := ca) (t := t) ⟨h11, h15⟩
          rw [e1, e2, e3, e4, e5, e6, e7, e8, ← hpl]
          exact ⟨_, rfl, L, _, _, _, rfl, o26, f26.mono (by omega)⟩
    · have z_l13 := l13.size
      have L := L.tr l13.up
      have B1 := B1.ext l13
      have B4 := B4.ext l13
      have B7 := B7.ext l13
      refine gt rfl rfl rfl rfl ?_
      refine s0 (x_not rfl) ?_
      refine s0 (x_pickf (v := .bool _) rfl rfl) ?_
      refine c_end ?_
      refine n_then ?_
      refine c_true rfl ?_
      refine wp_seq ?_
      refine c_reg ?_
      refine st (x_loadAgB ag25FO rfl B1 rfl) ?_
      refine s0 (x_build (cs := [.int .i64 0, .int .i64 0, .int .i64 0, .bool false, .bool false, .slice none 0 0]) bd42FO pts_nil rfl) ?_
      refine s_storeAg rfl sz25FO rfl rfl B4 rfl rfl rfl ?_
      intro w246 l247 el247 B4
      have z_l247 := l247.size
      have L := L.fresh l247 (by omega)
      have B1 := B1.ne l247 (by omega)
      have B7 := B7.ne l247 (by omega)
      refine s_storeAg rfl sz42FO rfl rfl B7 rfl rfl rfl ?_
      intro w248 l249 el249 B7
      have z_l249 := l249.size
      have L := L.fresh l249 (by omega)
      have B1 := B1.ne l249 (by omega)
      have B4 := B4.ne l249 (by omega)
      refine s0 (x_assign (v := .int _ _) rfl) ?_
      refine c_end ?_
      refine n_then ?_
      refine wp_ret (r_then ?_)
      refine f_rets3 rfl (ro_cell rfl ag25FO B4 rfl) (ro_cell rfl ag42FO B7 rfl) (ro_tmp rfl) ?_
      obtain ⟨e1, e2, e3, e4, e5, e6, e7, e8⟩ := fh_no (s := s) (c := ca) (t := t) (fun h => h15 h.2)
      rw [e1, e2, e3, e4, e5, e6, e7, e8]
      exact ⟨_, rfl, L, none, 0, [], rfl, Own.nil, Fr.no⟩
  · have z_l11 := l11.size
    have L := L.tr l11.up
    have B1 := B1.ext l11
    have B4 := B4.ext l11
    have B7 := B7.ext l11
    refine s0 (x_not rfl) ?_
    refine s0 (x_move (v := .bool _) rfl) ?_
    refine gf rfl rfl rfl rfl ?_
    refine gf rfl rfl rfl rfl ?_
    refine gf rfl rfl rfl rfl ?_
    refine s0 (x_pickt (v := .bool _) rfl rfl) ?_
    refine c_end ?_
    refine n_then ?_
    refine c_true rfl ?_
    refine wp_seq ?_
    refine c_reg ?_
    refine st (x_loadAgB ag25FO rfl B1 rfl) ?_
    refine s0 (x_build (cs := [.int .i64 0, .int .i64 0, .int .i64 0, .bool false, .bool false, .slice none 0 0]) bd42FO pts_nil rfl) ?_
    refine s_storeAg rfl sz25FO rfl rfl B4 rfl rfl rfl ?_
    intro w250 l251 el251 B4
    have z_l251 := l251.size
    have L := L.fresh l251 (by omega)
    have B1 := B1.ne l251 (by omega)
    have B7 := B7.ne l251 (by omega)
    refine s_storeAg rfl sz42FO rfl rfl B7 rfl rfl rfl ?_
    intro w252 l253 el253 B7
    have z_l253 := l253.size
    have L := L.fresh l253 (by omega)
    have B1 := B1.ne l253 (by omega)
    have B4 := B4.ne l253 (by omega)
    refine s0 (x_assign (v := .int _ _) rfl) ?_
    refine c_end ?_
    refine n_then ?_
    refine wp_ret (r_then ?_)
    refine f_rets3 rfl (ro_cell rfl ag25FO B4 rfl) (ro_cell rfl ag42FO B7 rfl) (ro_tmp rfl) ?_
    obtain ⟨e1, e2, e3, e4, e5, e6, e7, e8⟩ := fh_no (s := s) (c := ca) (t := t) (fun h => h11 h.1)
    rw [e1, e2, e3, e4, e5, e6, e7, e8]
    exact ⟨_, rfl, L, none, 0, [], rfl, Own.nil, Fr.no⟩

end Go.Proofs.Ytnehdmcilmlchaa
