/- What each function of this part returns, for every argument that meets its premises. -/
import Derived.Test.YtdnckakaoageoaaProg
import Derived.Test.YtdnckakaoageoaaVSxF
import Derived.Test.YtdnckakaoageoaaVPlY
import Derived.Test.YtdnckakaoageoaaVF1
import Derived.Test.YtdnckakaoageoaaVF3
namespace Go.Proofs.Ytdnckakaoageoaa
open Go.Sx Go.Pl Go.RowKit
theorem ag151FE : Ag Try.prog 151 2 := ⟨⟨_, Try.underlying151⟩, by kernel_rfl⟩
theorem ag64FE : Ag Try.prog 64 4 := ⟨⟨_, Try.underlying64⟩, by kernel_rfl⟩
theorem cl103FE : Callable Try.prog 103 := callable Try.func103 (by kernel_rfl) rfl
theorem cl109FE : Callable Try.prog 109 := callable Try.func109 (by kernel_rfl) rfl
theorem cl130FE : Callable Try.prog 130 := callable Try.func130 (by kernel_rfl) rfl
theorem cl131FE : Callable Try.prog 131 := callable Try.func131 (by kernel_rfl) rfl
theorem cl71FE : Callable Try.prog 71 := callable Try.func71 (by kernel_rfl) rfl
theorem fa151_0FE : FieldAt Try.prog 151 0 0 := ⟨_, _, Try.underlying151, rfl, rfl, ⟨0, by unfold Sz; kernel_rfl⟩⟩
theorem fa151_1FE : FieldAt Try.prog 151 1 1 := ⟨_, _, Try.underlying151, rfl, rfl, ⟨0, by unfold Sz; kernel_rfl⟩⟩
theorem fa64_0FE : FieldAt Try.prog 64 0 0 := ⟨_, _, Try.underlying64, rfl, rfl, ⟨0, by unfold Sz; kernel_rfl⟩⟩
theorem sc3FE : Sc Try.prog 3 := ⟨(.int .i64), by kernel_rfl, trivial⟩
theorem sc9FE : Sc Try.prog 9 := ⟨.string, by kernel_rfl, trivial⟩
theorem so68FE : SliceOf Try.prog 68 151 2 16 := ⟨by kernel_rfl, by kernel_rfl⟩
theorem sz151FE : Sz Try.prog 151 2 := by unfold Sz; kernel_rfl
theorem sz64FE : Sz Try.prog 64 4 := by unfold Sz; kernel_rfl
theorem un68FE : Try.prog.underlying 68 = some (.slice 151) := by kernel_rfl
theorem un9FE : Try.prog.underlying 9 = some .string := by kernel_rfl
theorem zr151FE : ZeroV Try.prog 151 [.int .i64 0, .int .i64 0] := by unfold ZeroV; kernel_rfl
theorem zr64FE : ZeroV Try.prog 64 [.string .empty, .int .i64 0, .int .i64 0, .int .i64 0] := by unfold ZeroV; kernel_rfl
theorem fs_no {s : ByteArray} {c : Ca} {t : List (Int × Int)} {e : Int} (h : fsE s c t = e) (he : e ≠ 0) : Ending.returned (.tuple [.agg [.string s, .int .i64 (c).pos, .int .i64 (c).word, .int .i64 (c).hv].toArray, .int .i64 0, .int .i64 e].toArray) = .returned (.tuple [.agg [.string s, .int .i64 (fsC s c t).pos, .int .i64 (fsC s c t).word, .int .i64 (fsC s c t).hv].toArray, .int .i64 (fsV s c t), .int .i64 (fsE s c t)].toArray) := by
  subst h; simp only [fsC, fsV, if_neg he]
theorem fs_yes {s : ByteArray} {c : Ca} {t : List (Int × Int)} {a v : Int} (h : fsE s c t = 0) (ha : a = 8 * c.pos - c.hv + (t.getD (fsIx s c) default).1) (hv : v = (t.getD (fsIx s c) default).2) : Ending.returned (.tuple [.agg [.string s, .int .i64 (settledAt s a).pos, .int .i64 (settledAt s a).word, .int .i64 (settledAt s a).hv].toArray, .int .i64 v, .int .i64 0].toArray) = .returned (.tuple [.agg [.string s, .int .i64 (fsC s c t).pos, .int .i64 (fsC s c t).word, .int .i64 (fsC s c t).hv].toArray, .int .i64 (fsV s c t), .int .i64 (fsE s c t)].toArray) := by
  subst ha hv; simp only [fsC, fsV, h, if_pos]
/-- impl.FastSym -/
theorem i_fastSym (s : ByteArray) (ca : Ca) (p : Option Addr) (t : List (Int × Int)) (c : Nat) (w : World) (hs : s.size ≤ 1048576) (hp : Sl w p t.length c 2 (t.flatMap erow)) (hl : t.length ≤ 1099511627776) :
    Calls Try.prog 69 [.agg [.string s, .int .i64 (ca).pos, .int .i64 (ca).word, .int .i64 (ca).hv].toArray, .slice p t.length c].toArray w (Ret w (.tuple [.agg [.string s, .int .i64 (fsC s ca t).pos, .int .i64 (fsC s ca t).word, .int .i64 (fsC s ca t).hv].toArray, .int .i64 (fsV s ca t), .int .i64 (fsE s ca t)].toArray)) := by
  have L : Exm [] w w := Exm.rfl'
  refine enter (n := 52) Try.func69 rfl rfl rfl ?_
  refine wp_seq ?_
  refine c_reg ?_
  refine s_box rfl rfl ?_
  intro b1 w2 lob1 hib1 l3 B1
  have z_l3 := l3.size
  have L := L.tr l3.up
  refine s_alloc zr64FE ?_
  intro b4 w5 lob4 hib4 l6 B4
  have z_l6 := l6.size
  have L := L.tr l6.up
  have B1 := B1.ext l6
  refine s0 (x_assign (v := .int _ _) rfl) ?_
  refine s0 (x_assign (v := .int _ _) rfl) ?_
  refine c_end ?_
  refine n_then ?_
  refine wp_seq ?_
  refine wp_seq ?_
  refine c_reg ?_
  refine st (x_loadAgB ag64FE rfl B1 rfl) ?_
  refine srb (zcall cl130FE rfl) (i_cacheOk _ _ _ _ _ (by omega)) (fun h10 w7 l8 => ?_) (fun h10 w7 l8 => ?_)
  · have z_l8 := l8.size
    have L := L.tr l8.up
    have B1 := B1.ext l8
    have B4 := B4.ext l8
    refine s0 (x_not rfl) ?_
    refine c_end ?_
    refine n_then ?_
    refine c_false rfl ?_
    refine c_skipn ?_
    refine n_then ?_
    refine wp_seq ?_
    have hpl := place_of h10
    have hin := place_in h10
    rw [← hpl] at hin
    refine c_reg ?_
    refine st (x_loadAgB ag64FE rfl B1 rfl) ?_
    refine sr (zcall cl71FE rfl) (i_place _ _ _ (by omega)) ?_
    intro w9 l10
    have z_l10 := l10.size
    have L := L.tr l10.up
    have B1 := B1.ext l10
    have B4 := B4.ext l10
    refine s0 (x_assign (v := .int _ _) rfl) ?_
    refine c_end ?_
    refine n_then ?_
    refine wp_seq ?_
    refine wp_seq ?_
    refine c_reg ?_
    refine s0 (x_move (v := .slice _ _ _) rfl) ?_
    refine s0 (x_lensl un68FE rfl) ?_
    refine sb (x_neq rfl rfl) (fun h17 => ?_) (fun h17 => ?_)
    · refine c_end ?_
      refine n_then ?_
      refine c_true rfl ?_
      refine wp_seq ?_
      refine c_reg ?_
      refine st (x_loadAgB ag64FE rfl B1 rfl) ?_
      refine s_storeAg rfl sz64FE rfl rfl B4 rfl rfl rfl ?_
      intro w11 l12 el12 B4
      have z_l12 := l12.size
      have L := L.fresh l12 (by omega)
      have B1 := B1.ne l12 (by omega)
      refine s0 (x_assign (v := .int _ _) rfl) ?_
      refine s0 (x_assign (v := .int _ _) rfl) ?_
      refine c_end ?_
      refine n_then ?_
      refine wp_ret (r_then ?_)
      refine f_rets3 rfl (ro_cell rfl ag64FE B4 rfl) (ro_tmp rfl) (ro_tmp rfl) ?_
      exact ⟨fs_no (fsE_code h10 (.inl (by omega))) (by decide), L⟩
    · refine c_end ?_
      refine n_then ?_
      refine c_false rfl ?_
      refine c_skipn ?_
      refine n_then ?_
      refine wp_seq ?_
      have h7 : 0 ≤ bitsOf s (placeOf s ca) (7 : Int).toNat ∧ bitsOf s (placeOf s ca) (7 : Int).toNat < 128 := bits7 s (placeOf s ca)
      have ht : t.length = 128 := by omega
      refine c_reg ?_
      refine s0 (x_move (v := .slice _ _ _) rfl) ?_
      refine s0 (x_fieldAddr fa64_0FE rfl) ?_
      refine st (x_loadB sc9FE rfl B1 rfl) ?_
      refine s0 (x_move (v := .int _ _) rfl) ?_
      refine sr (zcall cl109FE rfl) (i_bits _ _ _ _ (by omega) (by omega) (by omega)) ?_
      intro w13 l14
      have z_l14 := l14.size
      have L := L.tr l14.up
      have B1 := B1.ext l14
      have B4 := B4.ext l14
      refine s0 (x_idx so68FE rfl rfl hp (by decide) (by omega) (by omega)) ?_
      refine st (x_ldr erow_len ag151FE rfl (hp.ext L) (by omega) (by omega)) ?_
      refine s_alloc zr151FE ?_
      intro b15 w16 lob15 hib15 l17 B15
      have z_l17 := l17.size
      have L := L.tr l17.up
      have B1 := B1.ext l17
      have B4 := B4.ext l17
      refine s_storeAg rfl sz151FE rfl rfl B15 rfl rfl rfl ?_
      intro w18 l19 el19 B15
      have z_l19 := l19.size
      have L := L.fresh l19 (by omega)
      have B1 := B1.ne l19 (by omega)
      have B4 := B4.ne l19 (by omega)
      refine c_end ?_
      refine n_then ?_
      refine wp_seq ?_
      refine wp_block ?_
      refine wp_seq ?_
      refine c_reg ?_
      refine s0 (x_fieldAddr fa151_0FE rfl) ?_
      refine st (x_loadB sc3FE rfl B15 rfl) ?_
      refine srb (zcall cl103FE rfl) (i_within _ _ _ _) (fun h29 w20 l21 => ?_) (fun h29 w20 l21 => ?_)
      · have z_l21 := l21.size
        have L := L.tr l21.up
        have B1 := B1.ext l21
        have B4 := B4.ext l21
        have B15 := B15.ext l21
        refine s0 (x_not rfl) ?_
        refine s0 (x_assign (v := .bool _) rfl) ?_
        refine c_end ?_
        refine n_then ?_
        refine c_false rfl ?_
        refine wp_seq ?_
        have htn : t.length = 128 := by omega
        refine c_reg ?_
        refine s0 (x_move (v := .int _ _) rfl) ?_
        refine s0 (x_fieldAddr fa151_0FE rfl) ?_
        refine st (x_loadB sc3FE rfl B15 rfl) ?_
        refine s0 (x_add rfl rfl (by omega)) ?_
        refine s0 (x_fieldAddr fa64_0FE rfl) ?_
        refine st (x_loadB sc9FE rfl B1 rfl) ?_
        refine s0 (x_len un9FE rfl) ?_
        refine s0 (x_mul rfl rfl (by omega)) ?_
        refine sb (x_gtr rfl rfl) (fun h41 => ?_) (fun h41 => ?_)
        · refine s0 (x_assign (v := .bool _) rfl) ?_
          refine c_end ?_
          refine n_then ?_
          refine c_true rfl ?_
          refine wp_seq ?_
          refine c_reg ?_
          refine st (x_loadAgB ag64FE rfl B1 rfl) ?_
          refine s_storeAg rfl sz64FE rfl rfl B4 rfl rfl rfl ?_
          intro w22 l23 el23 B4
          have z_l23 := l23.size
          have L := L.fresh l23 (by omega)
          have B1 := B1.ne l23 (by omega)
          have B15 := B15.ne l23 (by omega)
          refine s0 (x_assign (v := .int _ _) rfl) ?_
          refine s0 (x_assign (v := .int _ _) rfl) ?_
          refine c_end ?_
          refine n_then ?_
          refine wp_ret (r_block (r_then ?_))
          refine f_rets3 rfl (ro_cell rfl ag64FE B4 rfl) (ro_tmp rfl) (ro_tmp rfl) ?_
          rw [hpl] at h29 h41
          exact ⟨fs_no (fsE_short h10 ht h29 h41) (by decide), L⟩
        · refine s0 (x_assign (v := .bool _) rfl) ?_
          refine c_end ?_
          refine n_then ?_
          refine c_false rfl ?_
          refine c_skipn ?_
          refine n_block ?_
          refine n_then ?_
          refine wp_seq ?_
          refine c_plan (fun wq => Exm [b4] w20 wq) 12 (.cons (0, 2) (.cons (1, 1) (.cons (2, 2) (.cons (3, 2) (.cons (4, 1) (.cons (5, 2) (.cons (7, 2) (.cons (8, 1) (.cons (6, 0) (.cons (9, 0) (.cons (10, 2) (.cons (11, 2) .nil)))))))))))) (by kernel_rfl) (by kernel_rfl) (Exm.drew _) ?_
          obtain ⟨w24, hwd⟩ : ∃ x, x = w20.drew := ⟨_, rfl⟩
          have l25 : Ext w20 w24 := by rw [hwd]; exact Exm.drew _
          rw [← hwd]; clear hwd
          have Lq : Exm [b4] w20 w24 := l25.up
          have qB1 := B1
          have qB4 := B4
          have qB15 := B15
          have qL := L
          have z_l25 := l25.size
          have L := L.tr l25.up
          have B1 := B1.ext l25
          have B4 := B4.ext l25
          have B15 := B15.ext l25
          refine p0 rfl (x_fieldAddr fa64_0FE rfl) ?_
          refine ps rfl (fun wq hwq => x_loadB sc9FE rfl (qB1.ne hwq (by omega)) rfl) ?_
          refine p0 rfl (x_move (v := .int _ _) rfl) ?_
          refine p0 rfl (x_fieldAddr fa151_0FE rfl) ?_
          refine ps rfl (fun wq hwq => x_loadB sc3FE rfl (qB15.ne hwq (by omega)) rfl) ?_
          refine p0 rfl (x_add rfl rfl (by omega)) ?_
          refine p0 rfl (x_fieldAddr fa151_1FE rfl) ?_
          refine ps rfl (fun wq hwq => x_loadB sc3FE rfl (qB15.ne hwq (by omega)) rfl) ?_
          refine pu rfl ?_ (by rintro ⟨_, _, h, _⟩; cases h)
          refine sr (zcall cl131FE rfl) (i_settledAt _ _ _ (by omega) (by omega)) ?_
          intro w26 l27
          have z_l27 := l27.size
          have L := L.tr l27.up
          have Lq := Lq.tr l27.up
          have B1 := B1.ext l27
          have B4 := B4.ext l27
          have B15 := B15.ext l27
          refine c_end ⟨rfl, fun h hS => Lq, ?_⟩
          refine pu rfl ?_ (by rintro ⟨_, _, h, _⟩; cases h)
          refine s_storeAg rfl sz64FE rfl rfl B4 rfl rfl rfl ?_
          intro w28 l29 el29 B4
          have z_l29 := l29.size
          have L := L.fresh l29 (by omega)
          have Lq := Lq.within l29 (by simp)
          have B1 := B1.ne l29 (by omega)
          have B15 := B15.ne l29 (by omega)
          refine c_end ⟨rfl, fun h hS => Lq, ?_⟩
          refine p0 rfl (x_assign (v := .int _ _) rfl) ?_
          refine p0 rfl (x_assign (v := .int _ _) rfl) ?_
          refine p_nil (np_normal ?_)
          refine n_then ?_
          refine wp_ret ?_
          refine f_rets3 rfl (ro_cell rfl ag64FE B4 rfl) (ro_tmp rfl) (ro_tmp rfl) ?_
          rw [hpl] at h29 h41
          exact ⟨fs_yes (fsE_yes h10 ht h29 h41) (by rw [hpl]; rfl) (by rw [hpl]; rfl), L⟩
      · have z_l21 := l21.size
        have L := L.tr l21.up
        have B1 := B1.ext l21
        have B4 := B4.ext l21
        have B15 := B15.ext l21
        refine s0 (x_not rfl) ?_
        refine s0 (x_assign (v := .bool _) rfl) ?_
        refine c_end ?_
        refine n_then ?_
        refine c_true rfl ?_
        refine wp_seq ?_
        refine c_reg ?_
        refine st (x_loadAgB ag64FE rfl B1 rfl) ?_
        refine s_storeAg rfl sz64FE rfl rfl B4 rfl rfl rfl ?_
        intro w30 l31 el31 B4
        have z_l31 := l31.size
        have L := L.fresh l31 (by omega)
        have B1 := B1.ne l31 (by omega)
        have B15 := B15.ne l31 (by omega)
        refine s0 (x_assign (v := .int _ _) rfl) ?_
        refine s0 (x_assign (v := .int _ _) rfl) ?_
        refine c_end ?_
        refine n_then ?_
        refine wp_ret (r_block (r_then ?_))
        refine f_rets3 rfl (ro_cell rfl ag64FE B4 rfl) (ro_tmp rfl) (ro_tmp rfl) ?_
        rw [hpl] at h29
        exact ⟨fs_no (fsE_code h10 (.inr h29)) (by decide), L⟩
  · have z_l8 := l8.size
    have L := L.tr l8.up
    have B1 := B1.ext l8
    have B4 := B4.ext l8
    refine s0 (x_not rfl) ?_
    refine c_end ?_
    refine n_then ?_
    refine c_true rfl ?_
    refine wp_seq ?_
    refine c_reg ?_
    refine st (x_loadAgB ag64FE rfl B1 rfl) ?_
    refine s_storeAg rfl sz64FE rfl rfl B4 rfl rfl rfl ?_
    intro w32 l33 el33 B4
    have z_l33 := l33.size
    have L := L.fresh l33 (by omega)
    have B1 := B1.ne l33 (by omega)
    refine s0 (x_assign (v := .int _ _) rfl) ?_
    refine s0 (x_assign (v := .int _ _) rfl) ?_
    refine c_end ?_
    refine n_then ?_
    refine wp_ret (r_then ?_)
    refine f_rets3 rfl (ro_cell rfl ag64FE B4 rfl) (ro_tmp rfl) (ro_tmp rfl) ?_
    exact ⟨fs_no (fsE_bad h10) (by decide), L⟩

end Go.Proofs.Ytdnckakaoageoaa
