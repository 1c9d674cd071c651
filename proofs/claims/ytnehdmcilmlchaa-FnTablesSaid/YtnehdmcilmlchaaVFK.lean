/- What each function of this part returns, for every argument that meets its premises. -/
import Derived.Test.YtnehdmcilmlchaaProg
import Derived.Test.YtnehdmcilmlchaaVSxF
import Derived.Test.YtnehdmcilmlchaaVPlY
import Derived.Test.YtnehdmcilmlchaaVF1
import Derived.Test.YtnehdmcilmlchaaVF2
import Derived.Test.YtnehdmcilmlchaaVF3
import Derived.Test.YtnehdmcilmlchaaVF9
import Derived.Test.YtnehdmcilmlchaaVFC
import Derived.Test.YtnehdmcilmlchaaVFJ
namespace Go.Proofs.Ytnehdmcilmlchaa
open Go.Sx Go.Pl Go.RowKit
theorem ag128FK : Ag Try.prog 128 2 := ⟨⟨_, Try.underlying128⟩, by kernel_rfl⟩
theorem ag25FK : Ag Try.prog 25 4 := ⟨⟨_, Try.underlying25⟩, by kernel_rfl⟩
theorem ag35FK : Ag Try.prog 35 2 := ⟨⟨_, Try.underlying35⟩, by kernel_rfl⟩
theorem bd35FK : Built Try.prog 35 [.string .empty, .int .i64 0] #[(0, 1), (1, 1)] := ⟨_, Try.underlying35, by unfold ZeroV; kernel_rfl, fun w => by kernel_rfl⟩
theorem cl100FK : Callable Try.prog 100 := callable Try.func100 (by kernel_rfl) rfl
theorem cl17FK : Callable Try.prog 17 := callable Try.func17 (by kernel_rfl) rfl
theorem cl19FK : Callable Try.prog 19 := callable Try.func19 (by kernel_rfl) rfl
theorem cl20FK : Callable Try.prog 20 := callable Try.func20 (by kernel_rfl) rfl
theorem cl21FK : Callable Try.prog 21 := callable Try.func21 (by kernel_rfl) rfl
theorem cl83FK : Callable Try.prog 83 := callable Try.func83 (by kernel_rfl) rfl
theorem cl86FK : Callable Try.prog 86 := callable Try.func86 (by kernel_rfl) rfl
theorem cl87FK : Callable Try.prog 87 := callable Try.func87 (by kernel_rfl) rfl
theorem cl88FK : Callable Try.prog 88 := callable Try.func88 (by kernel_rfl) rfl
theorem cl89FK : Callable Try.prog 89 := callable Try.func89 (by kernel_rfl) rfl
theorem cl90FK : Callable Try.prog 90 := callable Try.func90 (by kernel_rfl) rfl
theorem cl95FK : Callable Try.prog 95 := callable Try.func95 (by kernel_rfl) rfl
theorem cl97FK : Callable Try.prog 97 := callable Try.func97 (by kernel_rfl) rfl
theorem cl98FK : Callable Try.prog 98 := callable Try.func98 (by kernel_rfl) rfl
theorem cl99FK : Callable Try.prog 99 := callable Try.func99 (by kernel_rfl) rfl
theorem fa128_0FK : FieldAt Try.prog 128 0 0 := ⟨_, _, Try.underlying128, rfl, rfl, ⟨0, by unfold Sz; kernel_rfl⟩⟩
theorem fa128_1FK : FieldAt Try.prog 128 1 1 := ⟨_, _, Try.underlying128, rfl, rfl, ⟨0, by unfold Sz; kernel_rfl⟩⟩
theorem fa25_0FK : FieldAt Try.prog 25 0 0 := ⟨_, _, Try.underlying25, rfl, rfl, ⟨0, by unfold Sz; kernel_rfl⟩⟩
theorem fa35_1FK : FieldAt Try.prog 35 1 1 := ⟨_, _, Try.underlying35, rfl, rfl, ⟨0, by unfold Sz; kernel_rfl⟩⟩
theorem sc3FK : Sc Try.prog 3 := ⟨(.int .i64), by kernel_rfl, trivial⟩
theorem sc9FK : Sc Try.prog 9 := ⟨.string, by kernel_rfl, trivial⟩
theorem so26FK : SliceOf Try.prog 26 128 2 16 := ⟨by kernel_rfl, by kernel_rfl⟩
theorem sz128FK : Sz Try.prog 128 2 := by unfold Sz; kernel_rfl
theorem sz25FK : Sz Try.prog 25 4 := by unfold Sz; kernel_rfl
theorem sz35FK : Sz Try.prog 35 2 := by unfold Sz; kernel_rfl
theorem un26FK : Try.prog.underlying 26 = some (.slice 128) := by kernel_rfl
theorem un9FK : Try.prog.underlying 9 = some .string := by kernel_rfl
theorem zr128FK : ZeroV Try.prog 128 [.int .i64 0, .int .i64 0] := by unfold ZeroV; kernel_rfl
theorem zr25FK : ZeroV Try.prog 25 [.string .empty, .int .i64 0, .int .i64 0, .int .i64 0] := by unfold ZeroV; kernel_rfl
theorem zr35FK : ZeroV Try.prog 35 [.string .empty, .int .i64 0] := by unfold ZeroV; kernel_rfl
theorem fu_no {s : ByteArray} {ca : Ca} {t : List (Int × Int)} {e : Int} (h : fuE s ca t = e) (he : e ≠ 0) : Ending.returned (.tuple [.agg [.string s, .int .i64 (ca).pos, .int .i64 (ca).word, .int .i64 (ca).hv].toArray, .int .i64 0, .int .i64 e].toArray) = .returned (.tuple [.agg [.string s, .int .i64 (fuC s ca t).pos, .int .i64 (fuC s ca t).word, .int .i64 (fuC s ca t).hv].toArray, .int .i64 (fuV s ca t), .int .i64 (fuE s ca t)].toArray) := by
  subst h; simp only [fuC, fuV, if_neg he]
theorem fu_yes {s : ByteArray} {ca : Ca} {t : List (Int × Int)} {a v : Int} (h : fuE s ca t = 0) (ha : a = fuAt s ca t) (hv : v = if fuHit s ca t then (t.getD (fuIx s ca) default).2 else ueV s (8 * ca.pos - ca.hv)) : Ending.returned (.tuple [.agg [.string s, .int .i64 (settledAt s a).pos, .int .i64 (settledAt s a).word, .int .i64 (settledAt s a).hv].toArray, .int .i64 v, .int .i64 0].toArray) = .returned (.tuple [.agg [.string s, .int .i64 (fuC s ca t).pos, .int .i64 (fuC s ca t).word, .int .i64 (fuC s ca t).hv].toArray, .int .i64 (fuV s ca t), .int .i64 (fuE s ca t)].toArray) := by
  subst ha hv; simp only [fuC, fuV, h, if_pos]
theorem fuE_bad {s : ByteArray} {c : Ca} {t : List (Int × Int)} (h : ¬ caOk s c) : fuE s c t = 1 := by unfold fuE; rw [if_pos h]
theorem fuE_hit {s : ByteArray} {c : Ca} {t : List (Int × Int)} (h : caOk s c) (h1 : fuHit s c t) : fuE s c t = if 8 * c.pos - c.hv + (t.getD (fuIx s c) default).1 > 8 * s.size then 1 else 0 := by unfold fuE; rw [if_neg (fun h2 => h2 h), if_pos h1]
theorem fuE_miss {s : ByteArray} {c : Ca} {t : List (Int × Int)} (h : caOk s c) (h1 : ¬ fuHit s c t) : fuE s c t = ueE s (8 * c.pos - c.hv) := by unfold fuE; rw [if_neg (fun h2 => h2 h), if_neg h1]
theorem fuAt_hit {s : ByteArray} {c : Ca} {t : List (Int × Int)} (h1 : fuHit s c t) : fuAt s c t = 8 * c.pos - c.hv + (t.getD (fuIx s c) default).1 := by unfold fuAt; rw [if_pos h1]
theorem fuAt_miss {s : ByteArray} {c : Ca} {t : List (Int × Int)} (h1 : ¬ fuHit s c t) : fuAt s c t = ueAt s (8 * c.pos - c.hv) := by unfold fuAt; rw [if_neg h1]

/-- spec.l7Reader -/
theorem s_l7Reader (s : ByteArray) (c : Ca) (w : World) (hs : s.size ≤ 1048576) :
    Calls Try.prog 100 [.agg [.string s, .int .i64 (c).pos, .int .i64 (c).word, .int .i64 (c).hv].toArray].toArray w (Ret w (.agg [.string s, .int .i64 (placeOf s c)].toArray)) := by
  have L : Exm [] w w := Exm.rfl'
  refine enter (n := 8) Try.func100 rfl rfl rfl ?_
  refine wp_seq ?_
  refine c_reg ?_
  refine s_box rfl rfl ?_
  intro b1 w2 lob1 hib1 l3 B1
  have z_l3 := l3.size
  have L := L.tr l3.up
  refine s_alloc zr35FK ?_
  intro b4 w5 lob4 hib4 l6 B4
  have z_l6 := l6.size
  have L := L.tr l6.up
  have B1 := B1.ext l6
  refine c_end ?_
  refine n_then ?_
  refine wp_seq ?_
  refine c_plan (fun wq => Exm [b4] w5 wq) 6 (.cons (0, 2) (.cons (1, 1) (.cons (2, 1) (.cons (3, 0) (.cons (4, 2) (.cons (5, 0) .nil)))))) (by kernel_rfl) (by kernel_rfl) (Exm.drew _) ?_
  obtain ⟨w7, hwd⟩ : ∃ x, x = w5.drew := ⟨_, rfl⟩
  have l8 : Ext w5 w7 := by rw [hwd]; exact Exm.drew _
  rw [← hwd]; clear hwd
  have Lq : Exm [b4] w5 w7 := l8.up
  have qB1 := B1
  have qB4 := B4
  have qL := L
  have z_l8 := l8.size
  have L := L.tr l8.up
  have B1 := B1.ext l8
  have B4 := B4.ext l8
  refine p0 rfl (x_fieldAddr fa25_0FK rfl) ?_
  refine ps rfl (fun wq hwq => x_loadB sc9FK rfl (qB1.ne hwq (by omega)) rfl) ?_
  refine ps rfl (fun wq hwq => x_loadAgB ag25FK rfl (qB1.ne hwq (by omega)) rfl) ?_
  refine pu rfl ?_ (by rintro ⟨_, _, h, _⟩; cases h)
  refine sr (zcall cl20FK rfl) (s_place _ _ _ (by omega)) ?_
  intro w9 l10
  have z_l10 := l10.size
  have L := L.tr l10.up
  have Lq := Lq.tr l10.up
  have B1 := B1.ext l10
  have B4 := B4.ext l10
  refine c_end ⟨rfl, fun h hS => Lq, ?_⟩
  refine p0 rfl (x_build (cs := [.string _, .int _ _]) bd35FK (pts_cons (v := .string _) rfl (pts_cons (v := .int _ _) rfl pts_nil)) rfl) ?_
  refine pu rfl ?_ (by rintro ⟨_, _, h, _⟩; cases h)
  refine s_storeAg rfl sz35FK rfl rfl B4 rfl rfl rfl ?_
  intro w11 l12 el12 B4
  have z_l12 := l12.size
  have L := L.fresh l12 (by omega)
  have Lq := Lq.within l12 (by simp)
  have B1 := B1.ne l12 (by omega)
  refine c_end ⟨rfl, fun h hS => Lq, ?_⟩
  refine p_nil (np_normal ?_)
  refine n_then ?_
  refine wp_ret ?_
  refine f_retc rfl rfl ag35FK B4 rfl ?_
  exact ⟨rfl, L⟩

/-- impl.FastUe -/
theorem i_fastUe (s : ByteArray) (ca : Ca) (p : Option Addr) (t : List (Int × Int)) (c : Nat) (w : World) (hs : s.size ≤ 1048576) (hp : Sl w p t.length c 2 (t.flatMap erow)) (hl : t.length ≤ 1099511627776) :
    Calls Try.prog 13 [.agg [.string s, .int .i64 (ca).pos, .int .i64 (ca).word, .int .i64 (ca).hv].toArray, .slice p t.length c].toArray w (Ret w (.tuple [.agg [.string s, .int .i64 (fuC s ca t).pos, .int .i64 (fuC s ca t).word, .int .i64 (fuC s ca t).hv].toArray, .int .i64 (fuV s ca t), .int .i64 (fuE s ca t)].toArray)) := by
  have L : Exm [] w w := Exm.rfl'
  refine enter (n := 69) Try.func13 rfl rfl rfl ?_
  refine wp_seq ?_
  refine c_reg ?_
  refine s_box rfl rfl ?_
  intro b1 w2 lob1 hib1 l3 B1
  have z_l3 := l3.size
  have L := L.tr l3.up
  refine s_alloc zr25FK ?_
  intro b4 w5 lob4 hib4 l6 B4
  have z_l6 := l6.size
  have L := L.tr l6.up
  have B1 := B1.ext l6
  refine s0 (x_assign (v := .int _ _) rfl) ?_
  refine s0 (x_assign (v := .int _ _) rfl) ?_
  refine c_end ?_
  refine n_then ?_
  refine wp_seq ?_
  refine wp_seq ?_
  refine c_reg ?_
  refine st (x_loadAgB ag25FK rfl B1 rfl) ?_
  refine srb (zcall cl86FK rfl) (i_cacheOk _ _ _ _ _ (by omega)) (fun h13 w7 l8 => ?_) (fun h13 w7 l8 => ?_)
  · have z_l8 := l8.size
    have L := L.tr l8.up
    have B1 := B1.ext l8
    have B4 := B4.ext l8
    refine s0 (x_not rfl) ?_
    refine c_end ?_
    refine n_then ?_
    refine c_false rfl ?_
    refine c_skipn ?_
    refine n_then ?_
    refine wp_seq ?_
    have hpl := place_of h13
    have hin := place_in h13
    rw [← hpl] at hin
    have hue := ueAt_in hin
    refine c_reg ?_
    refine st (x_loadAgB ag25FK rfl B1 rfl) ?_
    refine sr (zcall cl21FK rfl) (i_place _ _ _ (by omega)) ?_
    intro w9 l10
    have z_l10 := l10.size
    have L := L.tr l10.up
    have B1 := B1.ext l10
    have B4 := B4.ext l10
    refine s0 (x_assign (v := .int _ _) rfl) ?_
    refine c_end ?_
    refine n_then ?_
    refine wp_seq ?_
    refine wp_seq ?_
    refine c_reg ?_
    refine s0 (x_move (v := .slice _ _ _) rfl) ?_
    refine s0 (x_lensl un26FK rfl) ?_
    refine sb (x_eql rfl rfl) (fun h20 => ?_) (fun h20 => ?_)
    · refine c_end ?_
      refine n_then ?_
      refine c_true rfl ?_
      refine wp_seq ?_
      have h9 : 0 ≤ bitsOf s (placeOf s ca) (9 : Int).toNat ∧ bitsOf s (placeOf s ca) (9 : Int).toNat < 512 := bitsOf_range s (placeOf s ca) 9
      have ht : t.length = 512 := by omega
      refine c_reg ?_
      refine s0 (x_move (v := .slice _ _ _) rfl) ?_
      refine s0 (x_fieldAddr fa25_0FK rfl) ?_
      refine st (x_loadB sc9FK rfl B1 rfl) ?_
      refine s0 (x_move (v := .int _ _) rfl) ?_
      refine sr (zcall cl87FK rfl) (i_bits _ _ _ _ (by omega) (by omega) (by omega)) ?_
      intro w11 l12
      have z_l12 := l12.size
      have L := L.tr l12.up
      have B1 := B1.ext l12
      have B4 := B4.ext l12
      refine s0 (x_idx so26FK rfl rfl hp (by decide) (by omega) (by omega)) ?_
      refine st (x_ldr erow_len ag128FK rfl (hp.ext L) (by omega) (by omega)) ?_
      refine s_alloc zr128FK ?_
      intro b13 w14 lob13 hib13 l15 B13
      have z_l15 := l15.size
      have L := L.tr l15.up
      have B1 := B1.ext l15
      have B4 := B4.ext l15
      refine s_storeAg rfl sz128FK rfl rfl B13 rfl rfl rfl ?_
      intro w16 l17 el17 B13
      have z_l17 := l17.size
      have L := L.fresh l17 (by omega)
      have B1 := B1.ne l17 (by omega)
      have B4 := B4.ne l17 (by omega)
      refine c_end ?_
      refine n_then ?_
      refine wp_seq ?_
      refine c_reg ?_
      refine s0 (x_fieldAddr fa128_0FK rfl) ?_
      refine st (x_loadB sc3FK rfl B13 rfl) ?_
      refine srb (zcall cl88FK rfl) (i_within _ _ _ _) (fun h30 w18 l19 => ?_) (fun h30 w18 l19 => ?_)
      · have z_l19 := l19.size
        have L := L.tr l19.up
        have B1 := B1.ext l19
        have B4 := B4.ext l19
        have B13 := B13.ext l19
        refine c_end ?_
        refine n_then ?_
        refine c_true rfl ?_
        refine wp_seq ?_
        refine wp_seq ?_
        have hhit : fuHit s ca t := ⟨by omega, by rw [hpl] at h30; exact h30⟩
        have hfa := fuAt_hit hhit
        have hfe := fuE_hit h13 hhit
        refine c_reg ?_
        refine s0 (x_move (v := .int _ _) rfl) ?_
        refine s0 (x_fieldAddr fa128_0FK rfl) ?_
        refine st (x_loadB sc3FK rfl B13 rfl) ?_
        refine s0 (x_add rfl rfl (by omega)) ?_
        refine s0 (x_fieldAddr fa25_0FK rfl) ?_
        refine st (x_loadB sc9FK rfl B1 rfl) ?_
        refine s0 (x_len un9FK rfl) ?_
        refine s0 (x_mul rfl rfl (by omega)) ?_
        refine sb (x_gtr rfl rfl) (fun h39 => ?_) (fun h39 => ?_)
        · refine c_end ?_
          refine n_then ?_
          refine c_true rfl ?_
          refine wp_seq ?_
          refine c_reg ?_
          refine st (x_loadAgB ag25FK rfl B1 rfl) ?_
          refine s_storeAg rfl sz25FK rfl rfl B4 rfl rfl rfl ?_
          intro w20 l21 el21 B4
          have z_l21 := l21.size
          have L := L.fresh l21 (by omega)
          have B1 := B1.ne l21 (by omega)
          have B13 := B13.ne l21 (by omega)
          refine s0 (x_assign (v := .int _ _) rfl) ?_
          refine s0 (x_assign (v := .int _ _) rfl) ?_
          refine c_end ?_
          refine n_then ?_
          refine wp_ret (r_then (r_then ?_))
          refine f_rets3 rfl (ro_cell rfl ag25FK B4 rfl) (ro_tmp rfl) (ro_tmp rfl) ?_
          rw [hpl] at h39
          exact ⟨fu_no (hfe.trans (if_pos h39)) (by decide), L⟩
        · refine c_end ?_
          refine n_then ?_
          refine c_false rfl ?_
          refine c_skipn ?_
          refine n_then ?_
          refine wp_seq ?_
          refine c_plan (fun wq => Exm [b4] w18 wq) 12 (.cons (0, 2) (.cons (1, 1) (.cons (2, 2) (.cons (3, 2) (.cons (4, 1) (.cons (5, 2) (.cons (7, 2) (.cons (8, 1) (.cons (6, 0) (.cons (9, 0) (.cons (10, 2) (.cons (11, 2) .nil)))))))))))) (by kernel_rfl) (by kernel_rfl) (Exm.drew _) ?_
          obtain ⟨w22, hwd⟩ : ∃ x, x = w18.drew := ⟨_, rfl⟩
          have l23 : Ext w18 w22 := by rw [hwd]; exact Exm.drew _
          rw [← hwd]; clear hwd
          have Lq : Exm [b4] w18 w22 := l23.up
          have qB1 := B1
          have qB4 := B4
          have qB13 := B13
          have qL := L
          have z_l23 := l23.size
          have L := L.tr l23.up
          have B1 := B1.ext l23
          have B4 := B4.ext l23
          have B13 := B13.ext l23
          refine p0 rfl (x_fieldAddr fa25_0FK rfl) ?_
          refine ps rfl (fun wq hwq => x_loadB sc9FK rfl (qB1.ne hwq (by omega)) rfl) ?_
          refine p0 rfl (x_move (v := .int _ _) rfl) ?_
          refine p0 rfl (x_fieldAddr fa128_0FK rfl) ?_
          refine ps rfl (fun wq hwq => x_loadB sc3FK rfl (qB13.ne hwq (by omega)) rfl) ?_
          refine p0 rfl (x_add rfl rfl (by omega)) ?_
          refine p0 rfl (x_fieldAddr fa128_1FK rfl) ?_
          refine ps rfl (fun wq hwq => x_loadB sc3FK rfl (qB13.ne hwq (by omega)) rfl) ?_
          refine pu rfl ?_ (by rintro ⟨_, _, h, _⟩; cases h)
          refine sr (zcall cl89FK rfl) (i_settledAt _ _ _ (by omega) (by omega)) ?_
          intro w24 l25
          have z_l25 := l25.size
          have L := L.tr l25.up
          have Lq := Lq.tr l25.up
          have B1 := B1.ext l25
          have B4 := B4.ext l25
          have B13 := B13.ext l25
          refine c_end ⟨rfl, fun h hS => Lq, ?_⟩
          refine pu rfl ?_ (by rintro ⟨_, _, h, _⟩; cases h)
          refine s_storeAg rfl sz25FK rfl rfl B4 rfl rfl rfl ?_
          intro w26 l27 el27 B4
          have z_l27 := l27.size
          have L := L.fresh l27 (by omega)
          have Lq := Lq.within l27 (by simp)
          have B1 := B1.ne l27 (by omega)
          have B13 := B13.ne l27 (by omega)
          refine c_end ⟨rfl, fun h hS => Lq, ?_⟩
          refine p0 rfl (x_assign (v := .int _ _) rfl) ?_
          refine p0 rfl (x_assign (v := .int _ _) rfl) ?_
          refine p_nil (np_normal ?_)
          refine n_then ?_
          refine wp_ret (r_then ?_)
          refine f_rets3 rfl (ro_cell rfl ag25FK B4 rfl) (ro_tmp rfl) (ro_tmp rfl) ?_
          rw [hpl] at h39
          exact ⟨fu_yes (hfe.trans (if_neg h39)) (by rw [hfa, hpl]; rfl) (by rw [if_pos hhit, hpl]; rfl), L⟩
      · have z_l19 := l19.size
        have L := L.tr l19.up
        have B1 := B1.ext l19
        have B4 := B4.ext l19
        have B13 := B13.ext l19
        refine c_end ?_
        refine n_then ?_
        refine c_false rfl ?_
        refine c_skipn ?_
        refine n_then ?_
        refine wp_seq ?_
        have hmis : ¬ fuHit s ca t := fun h => h30 (by rw [hpl]; exact h.2)
        refine c_reg ?_
        refine s0 (x_fieldAddr fa25_0FK rfl) ?_
        refine st (x_loadB sc9FK rfl B1 rfl) ?_
        refine s0 (x_move (v := .int _ _) rfl) ?_
        refine s0 (x_build (cs := [.string _, .int _ _]) bd35FK (pts_cons (v := .string _) rfl (pts_cons (v := .int _ _) rfl pts_nil)) rfl) ?_
        refine sr (zcall cl90FK rfl) (i_ue _ _ _ (by omega)) ?_
        intro w28 l29
        have z_l29 := l29.size
        have L := L.tr l29.up
        have B1 := B1.ext l29
        have B4 := B4.ext l29
        have B13 := B13.ext l29
        refine s0 (x_move (v := .tuple _) rfl) ?_
        refine s0 (x_extract rfl rfl) ?_
        refine s0 (x_extract rfl rfl) ?_
        refine s0 (x_extract rfl rfl) ?_
        refine s_alloc zr35FK ?_
        intro b30 w31 lob30 hib30 l32 B30
        have z_l32 := l32.size
        have L := L.tr l32.up
        have B1 := B1.ext l32
        have B4 := B4.ext l32
        have B13 := B13.ext l32
        refine s_storeAg rfl sz35FK rfl rfl B30 rfl rfl rfl ?_
        intro w33 l34 el34 B30
        have z_l34 := l34.size
        have L := L.fresh l34 (by omega)
        have B1 := B1.ne l34 (by omega)
        have B4 := B4.ne l34 (by omega)
        have B13 := B13.ne l34 (by omega)
        refine s0 (x_assign (v := .int _ _) rfl) ?_
        refine s0 (x_assign (v := .int _ _) rfl) ?_
        refine c_end ?_
        refine n_then ?_
        refine wp_seq ?_
        refine wp_seq ?_
        refine c_reg ?_
        refine s0 (x_move (v := .int _ _) rfl) ?_
        refine sb (x_neq rfl rfl) (fun h60 => ?_) (fun h60 => ?_)
        · refine c_end ?_
          refine n_then ?_
          refine c_true rfl ?_
          refine wp_seq ?_
          refine c_reg ?_
          refine st (x_loadAgB ag25FK rfl B1 rfl) ?_
          refine s0 (x_move (v := .int _ _) rfl) ?_
          refine s_storeAg rfl sz25FK rfl rfl B4 rfl rfl rfl ?_
          intro w35 l36 el36 B4
          have z_l36 := l36.size
          have L := L.fresh l36 (by omega)
          have B1 := B1.ne l36 (by omega)
          have B13 := B13.ne l36 (by omega)
          have B30 := B30.ne l36 (by omega)
          refine s0 (x_assign (v := .int _ _) rfl) ?_
          refine s0 (x_assign (v := .int _ _) rfl) ?_
          refine c_end ?_
          refine n_then ?_
          refine wp_ret (r_then ?_)
          refine f_rets3 rfl (ro_cell rfl ag25FK B4 rfl) (ro_tmp rfl) (ro_tmp rfl) ?_
          have hfe := fuE_miss h13 hmis
          rw [← hpl] at hfe
          exact ⟨fu_no hfe h60, L⟩
        · refine c_end ?_
          refine n_then ?_
          refine c_false rfl ?_
          refine c_skipn ?_
          refine n_then ?_
          refine wp_seq ?_
          refine c_reg ?_
          refine s0 (x_fieldAddr fa25_0FK rfl) ?_
          refine st (x_loadB sc9FK rfl B1 rfl) ?_
          refine s0 (x_fieldAddr fa35_1FK rfl) ?_
          refine st (x_loadB sc3FK rfl B30 rfl) ?_
          refine sr (zcall cl89FK rfl) (i_settledAt _ _ _ (by omega) (by omega)) ?_
          intro w37 l38
          have z_l38 := l38.size
          have L := L.tr l38.up
          have B1 := B1.ext l38
          have B4 := B4.ext l38
          have B13 := B13.ext l38
          have B30 := B30.ext l38
          refine s0 (x_move (v := .int _ _) rfl) ?_
          refine s_storeAg rfl sz25FK rfl rfl B4 rfl rfl rfl ?_
          intro w39 l40 el40 B4
          have z_l40 := l40.size
          have L := L.fresh l40 (by omega)
          have B1 := B1.ne l40 (by omega)
          have B13 := B13.ne l40 (by omega)
          have B30 := B30.ne l40 (by omega)
          refine s0 (x_assign (v := .int _ _) rfl) ?_
          refine s0 (x_assign (v := .int _ _) rfl) ?_
          refine c_end ?_
          refine n_then ?_
          refine wp_ret ?_
          refine f_rets3 rfl (ro_cell rfl ag25FK B4 rfl) (ro_tmp rfl) (ro_tmp rfl) ?_
          have hfe := fuE_miss h13 hmis
          have hfa := fuAt_miss hmis
          rw [← hpl] at hfe hfa
          exact ⟨fu_yes (hfe.trans (Classical.not_not.1 h60)) hfa.symm (by rw [if_neg hmis, hpl]), L⟩
    · refine c_end ?_
      refine n_then ?_
      refine c_false rfl ?_
      refine c_skipn ?_
      refine n_then ?_
      refine wp_seq ?_
      have hmis : ¬ fuHit s ca t := fun h => h20 (by have := h.1; omega)
      refine c_reg ?_
      refine s0 (x_fieldAddr fa25_0FK rfl) ?_
      refine st (x_loadB sc9FK rfl B1 rfl) ?_
      refine s0 (x_move (v := .int _ _) rfl) ?_
      refine s0 (x_build (cs := [.string _, .int _ _]) bd35FK (pts_cons (v := .string _) rfl (pts_cons (v := .int _ _) rfl pts_nil)) rfl) ?_
      refine sr (zcall cl90FK rfl) (i_ue _ _ _ (by omega)) ?_
      intro w41 l42
      have z_l42 := l42.size
      have L := L.tr l42.up
      have B1 := B1.ext l42
      have B4 := B4.ext l42
      refine s0 (x_move (v := .tuple _) rfl) ?_
      refine s0 (x_extract rfl rfl) ?_
      refine s0 (x_extract rfl rfl) ?_
      refine s0 (x_extract rfl rfl) ?_
      refine s_alloc zr35FK ?_
      intro b43 w44 lob43 hib43 l45 B43
      have z_l45 := l45.size
      have L := L.tr l45.up
      have B1 := B1.ext l45
      have B4 := B4.ext l45
      refine s_storeAg rfl sz35FK rfl rfl B43 rfl rfl rfl ?_
      intro w46 l47 el47 B43
      have z_l47 := l47.size
      have L := L.fresh l47 (by omega)
      have B1 := B1.ne l47 (by omega)
      have B4 := B4.ne l47 (by omega)
      refine s0 (x_assign (v := .int _ _) rfl) ?_
      refine s0 (x_assign (v := .int _ _) rfl) ?_
      refine c_end ?_
      refine n_then ?_
      refine wp_seq ?_
      refine wp_seq ?_
      refine c_reg ?_
      refine s0 (x_move (v := .int _ _) rfl) ?_
      refine sb (x_neq rfl rfl) (fun h60 => ?_) (fun h60 => ?_)
      · refine c_end ?_
        refine n_then ?_
        refine c_true rfl ?_
        refine wp_seq ?_
        refine c_reg ?_
        refine st (x_loadAgB ag25FK rfl B1 rfl) ?_
        refine s0 (x_move (v := .int _ _) rfl) ?_
        refine s_storeAg rfl sz25FK rfl rfl B4 rfl rfl rfl ?_
        intro w48 l49 el49 B4
        have z_l49 := l49.size
        have L := L.fresh l49 (by omega)
        have B1 := B1.ne l49 (by omega)
        have B43 := B43.ne l49 (by omega)
        refine s0 (x_assign (v := .int _ _) rfl) ?_
        refine s0 (x_assign (v := .int _ _) rfl) ?_
        refine c_end ?_
        refine n_then ?_
        refine wp_ret (r_then ?_)
        refine f_rets3 rfl (ro_cell rfl ag25FK B4 rfl) (ro_tmp rfl) (ro_tmp rfl) ?_
        have hfe := fuE_miss h13 hmis
        rw [← hpl] at hfe
        exact ⟨fu_no hfe h60, L⟩
      · refine c_end ?_
        refine n_then ?_
        refine c_false rfl ?_
        refine c_skipn ?_
        refine n_then ?_
        refine wp_seq ?_
        refine c_reg ?_
        refine s0 (x_fieldAddr fa25_0FK rfl) ?_
        refine st (x_loadB sc9FK rfl B1 rfl) ?_
        refine s0 (x_fieldAddr fa35_1FK rfl) ?_
        refine st (x_loadB sc3FK rfl B43 rfl) ?_
        refine sr (zcall cl89FK rfl) (i_settledAt _ _ _ (by omega) (by omega)) ?_
        intro w50 l51
        have z_l51 := l51.size
        have L := L.tr l51.up
        have B1 := B1.ext l51
        have B4 := B4.ext l51
        have B43 := B43.ext l51
        refine s0 (x_move (v := .int _ _) rfl) ?_
        refine s_storeAg rfl sz25FK rfl rfl B4 rfl rfl rfl ?_
        intro w52 l53 el53 B4
        have z_l53 := l53.size
        have L := L.fresh l53 (by omega)
        have B1 := B1.ne l53 (by omega)
        have B43 := B43.ne l53 (by omega)
        refine s0 (x_assign (v := .int _ _) rfl) ?_
        refine s0 (x_assign (v := .int _ _) rfl) ?_
        refine c_end ?_
        refine n_then ?_
        refine wp_ret ?_
        refine f_rets3 rfl (ro_cell rfl ag25FK B4 rfl) (ro_tmp rfl) (ro_tmp rfl) ?_
        have hfe := fuE_miss h13 hmis
        have hfa := fuAt_miss hmis
        rw [← hpl] at hfe hfa
        exact ⟨fu_yes (hfe.trans (Classical.not_not.1 h60)) hfa.symm (by rw [if_neg hmis, hpl]), L⟩
  · have z_l8 := l8.size
    have L := L.tr l8.up
    have B1 := B1.ext l8
    have B4 := B4.ext l8
    refine s0 (x_not rfl) ?_
    refine c_end ?_
    refine n_then ?_
    refine c_true rfl ?_
    refine wp_seq ?_
    refine c_reg ?_
    refine st (x_loadAgB ag25FK rfl B1 rfl) ?_
    refine s_storeAg rfl sz25FK rfl rfl B4 rfl rfl rfl ?_
    intro w54 l55 el55 B4
    have z_l55 := l55.size
    have L := L.fresh l55 (by omega)
    have B1 := B1.ne l55 (by omega)
    refine s0 (x_assign (v := .int _ _) rfl) ?_
    refine s0 (x_assign (v := .int _ _) rfl) ?_
    refine c_end ?_
    refine n_then ?_
    refine wp_ret (r_then ?_)
    refine f_rets3 rfl (ro_cell rfl ag25FK B4 rfl) (ro_tmp rfl) (ro_tmp rfl) ?_
    exact ⟨fu_no (fuE_bad h13) (by decide), L⟩

/-- spec.FastUe -/
theorem s_fastUe (s : ByteArray) (ca : Ca) (p : Option Addr) (t : List (Int × Int)) (c : Nat) (w : World) (hs : s.size ≤ 1048576) (hp : Sl w p t.length c 2 (t.flatMap erow)) (hl : t.length ≤ 1099511627776) :
    Calls Try.prog 18 [.agg [.string s, .int .i64 (ca).pos, .int .i64 (ca).word, .int .i64 (ca).hv].toArray, .slice p t.length c].toArray w (Ret w (.tuple [.agg [.string s, .int .i64 (fuC s ca t).pos, .int .i64 (fuC s ca t).word, .int .i64 (fuC s ca t).hv].toArray, .int .i64 (fuV s ca t), .int .i64 (fuE s ca t)].toArray)) := by
  have L : Exm [] w w := Exm.rfl'
  refine enter (n := 72) Try.func18 rfl rfl rfl ?_
  refine wp_seq ?_
  refine c_reg ?_
  refine s_box rfl rfl ?_
  intro b1 w2 lob1 hib1 l3 B1
  have z_l3 := l3.size
  have L := L.tr l3.up
  refine s_alloc zr25FK ?_
  intro b4 w5 lob4 hib4 l6 B4
  have z_l6 := l6.size
  have L := L.tr l6.up
  have B1 := B1.ext l6
  refine s0 (x_assign (v := .int _ _) rfl) ?_
  refine s0 (x_assign (v := .int _ _) rfl) ?_
  refine c_end ?_
  refine n_then ?_
  refine wp_seq ?_
  refine wp_seq ?_
  refine c_reg ?_
  refine st (x_loadAgB ag25FK rfl B1 rfl) ?_
  refine srb (zcall cl17FK rfl) (s_cacheOk _ _ _ _ _ (by omega)) (fun h15 w7 l8 => ?_) (fun h15 w7 l8 => ?_)
  · have z_l8 := l8.size
    have L := L.tr l8.up
    have B1 := B1.ext l8
    have B4 := B4.ext l8
    refine s0 (x_not rfl) ?_
    refine c_end ?_
    refine n_then ?_
    refine c_false rfl ?_
    refine c_skipn ?_
    refine n_then ?_
    refine wp_seq ?_
    have hpl := place_of h15
    have hin := place_in h15
    rw [← hpl] at hin
    have hue := ueAt_in hin
    refine c_reg ?_
    refine st (x_loadAgB ag25FK rfl B1 rfl) ?_
    refine sr (zcall cl97FK rfl) (s_peek _ ca _ _ (by omega)) ?_
    intro w9 l10
    have z_l10 := l10.size
    have L := L.tr l10.up
    have B1 := B1.ext l10
    have B4 := B4.ext l10
    refine s0 (x_move (v := .tuple _) rfl) ?_
    refine s0 (x_extract rfl rfl) ?_
    refine s0 (x_extract rfl rfl) ?_
    refine s_alloc zr25FK ?_
    intro b11 w12 lob11 hib11 l13 B11
    have z_l13 := l13.size
    have L := L.tr l13.up
    have B1 := B1.ext l13
    have B4 := B4.ext l13
    refine s_storeAg rfl sz25FK rfl rfl B11 rfl rfl rfl ?_
    intro w14 l15 el15 B11
    have z_l15 := l15.size
    have L := L.fresh l15 (by omega)
    have B1 := B1.ne l15 (by omega)
    have B4 := B4.ne l15 (by omega)
    refine s0 (x_assign (v := .int _ _) rfl) ?_
    refine c_end ?_
    refine n_then ?_
    refine wp_seq ?_
    refine wp_seq ?_
    have hpk := fu_peek h15
    have hix : (peekV s ca 9).toNat = fuIx s ca := by omega
    refine c_reg ?_
    refine s0 (x_move (v := .slice _ _ _) rfl) ?_
    refine s0 (x_lensl un26FK rfl) ?_
    refine sb (x_eql rfl rfl) (fun h25 => ?_) (fun h25 => ?_)
    · refine s0 (x_move (v := .bool _) rfl) ?_
      refine gt rfl rfl rfl rfl ?_
      refine s0 (x_move (v := .slice _ _ _) rfl) ?_
      refine gt rfl rfl rfl rfl ?_
      refine s0 (x_move (v := .int _ _) rfl) ?_
      refine gt rfl rfl rfl rfl ?_
      refine s0 (x_idx so26FK rfl rfl hp (by decide) (by omega) (by omega)) ?_
      refine gt rfl rfl rfl rfl ?_
      refine s0 (x_fieldAddr fa128_0FK rfl) ?_
      refine gt rfl rfl rfl rfl ?_
      refine st (x_ldf (u := .int _ _) erow_len sc3FK rfl (hp.ext L) (by omega) (by omega) (by decide) rfl) ?_
      refine gt rfl rfl rfl rfl ?_
      refine srb (zcall cl95FK rfl) (s_l1In _ _ _ _) (fun h32 w16 l17 => ?_) (fun h32 w16 l17 => ?_)
      · have z_l17 := l17.size
        have L := L.tr l17.up
        have B1 := B1.ext l17
        have B4 := B4.ext l17
        have B11 := B11.ext l17
        refine s0 (x_pickt (v := .bool _) rfl rfl) ?_
        refine c_end ?_
        refine n_then ?_
        refine c_true rfl ?_
        refine wp_seq ?_
        have ht : t.length = 512 := by omega
        have hhit : fuHit s ca t := ⟨by omega, by rw [← hix]; exact h32⟩
        have hfa := fuAt_hit hhit
        have hfe := fuE_hit h15 hhit
        have hq := fu_skip h15 h32
        refine c_plan (fun wq => Exm [] w16 wq) 13 (.cons (0, 1) (.cons (1, 2) (.cons (2, 2) (.cons (3, 2) (.cons (4, 2) (.cons (5, 1) (.fork 6 10 (.cons (7, 2) (.cons (8, 2) (.cons (9, 2) (.cons (10, 0) (.cons (11, 0) (.cons (12, 2) .nil)))))) (.cons (6, 0) (.cons (7, 2) (.cons (8, 2) (.cons (9, 2) (.cons (11, 0) (.cons (12, 2) .nil))))))))))))) (by kernel_rfl) (by kernel_rfl) (Exm.drew _) ?_
        obtain ⟨w18, hwd⟩ : ∃ x, x = w16.drew := ⟨_, rfl⟩
        have l19 : Ext w16 w18 := by rw [hwd]; exact Exm.drew _
        rw [← hwd]; clear hwd
        have Lq : Exm [] w16 w18 := l19.up
        have qB1 := B1
        have qB4 := B4
        have qB11 := B11
        have qL := L
        have z_l19 := l19.size
        have L := L.tr l19.up
        have B1 := B1.ext l19
        have B4 := B4.ext l19
        have B11 := B11.ext l19
        refine ps rfl (fun wq hwq => x_loadAgB ag25FK rfl (qB11.ext hwq) rfl) ?_
        refine p0 rfl (x_move (v := .slice _ _ _) rfl) ?_
        refine p0 rfl (x_move (v := .int _ _) rfl) ?_
        refine p0 rfl (x_idx so26FK rfl rfl hp (by decide) (by omega) (by omega)) ?_
        refine p0 rfl (x_fieldAddr fa128_0FK rfl) ?_
        refine ps rfl (fun wq hwq => x_ldf (u := .int _ _) erow_len sc3FK rfl ((hp.ext qL).ext hwq) (by omega) (by omega) (by decide) rfl) ?_
        refine pfork ?_ ?_
        · refine pu rfl ?_ (by rintro ⟨_, _, h, _⟩; cases h)
          refine sr (zcall cl98FK rfl) (s_skip _ (peekC s ca 9) _ _ (by omega)) ?_
          intro w20 l21
          have z_l21 := l21.size
          have L := L.tr l21.up
          have Lq := Lq.tr l21.up
          have B1 := B1.ext l21
          have B4 := B4.ext l21
          have B11 := B11.ext l21
          refine c_end ⟨rfl, fun h hS => Lq, ?_⟩
          refine p0 rfl (x_move (v := .tuple _) rfl) ?_
          refine p0 rfl (x_extract rfl rfl) ?_
          refine pb rfl (x_extract rfl rfl) (fun h43 => ?_) (fun h43 => ?_)
          · refine pu rfl ?_ (by rintro ⟨_, _, h, _⟩; cases h)
            refine s_alloc zr25FK ?_
            intro b22 w23 lob22 hib22 l24 B22
            have z_l24 := l24.size
            have L := L.tr l24.up
            have Lq := Lq.tr l24.up
            have B1 := B1.ext l24
            have B4 := B4.ext l24
            have B11 := B11.ext l24
            refine c_end ⟨rfl, fun h hS => Lq, ?_⟩
            refine pu rfl ?_ (by rintro ⟨_, _, h, _⟩; cases h)
            refine s_storeAg rfl sz25FK rfl rfl B22 rfl rfl rfl ?_
            intro w25 l26 el26 B22
            have z_l26 := l26.size
            have L := L.fresh l26 (by omega)
            have Lq := Lq.fresh l26 (by omega)
            have B1 := B1.ne l26 (by omega)
            have B4 := B4.ne l26 (by omega)
            have B11 := B11.ne l26 (by omega)
            refine c_end ⟨rfl, fun h hS => Lq, ?_⟩
            refine p0 rfl (x_assign (v := .bool _) rfl) ?_
            refine p_nil (np_normal ?_)
            refine n_then ?_
            refine wp_seq ?_
            refine wp_seq ?_
            refine c_reg ?_
            refine s0 (x_move (v := .bool _) rfl) ?_
            refine s0 (x_not rfl) ?_
            refine c_end ?_
            refine n_then ?_
            refine c_false rfl ?_
            refine c_skipn ?_
            refine n_then ?_
            refine wp_seq ?_
            refine c_plan (fun wq => Exm [b4] w25 wq) 10 (.cons (0, 1) (.cons (2, 2) (.cons (3, 2) (.cons (4, 2) (.cons (5, 2) (.cons (6, 1) (.cons (1, 0) (.cons (7, 0) (.cons (8, 2) (.cons (9, 2) .nil)))))))))) (by kernel_rfl) (by kernel_rfl) (Exm.drew _) ?_
            obtain ⟨w27, hwd⟩ : ∃ x, x = w25.drew := ⟨_, rfl⟩
            have l28 : Ext w25 w27 := by rw [hwd]; exact Exm.drew _
            rw [← hwd]; clear hwd
            have Lq : Exm [b4] w25 w27 := l28.up
            have qB1 := B1
            have qB4 := B4
            have qB11 := B11
            have qB22 := B22
            have qL := L
            have z_l28 := l28.size
            have L := L.tr l28.up
            have B1 := B1.ext l28
            have B4 := B4.ext l28
            have B11 := B11.ext l28
            have B22 := B22.ext l28
            refine ps rfl (fun wq hwq => x_loadAgB ag25FK rfl (qB22.ne hwq (by omega)) rfl) ?_
            refine p0 rfl (x_move (v := .slice _ _ _) rfl) ?_
            refine p0 rfl (x_move (v := .int _ _) rfl) ?_
            refine p0 rfl (x_idx so26FK rfl rfl hp (by decide) (by omega) (by omega)) ?_
            refine p0 rfl (x_fieldAddr fa128_1FK rfl) ?_
            refine ps rfl (fun wq hwq => x_ldf (u := .int _ _) erow_len sc3FK rfl (hp.ext (qL.fresh hwq (by omega))) (by omega) (by omega) (by decide) rfl) ?_
            refine pu rfl ?_ (by rintro ⟨_, _, h, _⟩; cases h)
            refine sr (zcall cl99FK rfl) (s_settle _ (skC s (peekC s ca 9) (t.getD (peekV s ca 9).toNat default).1) _ (by omega)) ?_
            intro w29 l30
            have z_l30 := l30.size
            have L := L.tr l30.up
            have Lq := Lq.tr l30.up
            have B1 := B1.ext l30
            have B4 := B4.ext l30
            have B11 := B11.ext l30
            have B22 := B22.ext l30
            refine c_end ⟨rfl, fun h hS => Lq, ?_⟩
            refine pu rfl ?_ (by rintro ⟨_, _, h, _⟩; cases h)
            refine s_storeAg rfl sz25FK rfl rfl B4 rfl rfl rfl ?_
            intro w31 l32 el32 B4
            have z_l32 := l32.size
            have L := L.fresh l32 (by omega)
            have Lq := Lq.within l32 (by simp)
            have B1 := B1.ne l32 (by omega)
            have B11 := B11.ne l32 (by omega)
            have B22 := B22.ne l32 (by omega)
            refine c_end ⟨rfl, fun h hS => Lq, ?_⟩
            refine p0 rfl (x_assign (v := .int _ _) rfl) ?_
            refine p0 rfl (x_assign (v := .int _ _) rfl) ?_
            refine p_nil (np_normal ?_)
            refine n_then ?_
            refine wp_ret (r_then ?_)
            refine f_rets3 rfl (ro_cell rfl ag25FK B4 rfl) (ro_tmp rfl) (ro_tmp rfl) ?_
            rw [hix] at h43 hq
            exact ⟨by rw [hix, hq.2 h43]; exact fu_yes (by rw [hfe, if_neg (by have := hq.1.1 h43; omega)]) hfa.symm (by rw [if_pos hhit]), L⟩
          · refine pu rfl ?_ (by rintro ⟨_, _, h, _⟩; cases h)
            refine s_alloc zr25FK ?_
            intro b33 w34 lob33 hib33 l35 B33
            have z_l35 := l35.size
            have L := L.tr l35.up
            have Lq := Lq.tr l35.up
            have B1 := B1.ext l35
            have B4 := B4.ext l35
            have B11 := B11.ext l35
            refine c_end ⟨rfl, fun h hS => Lq, ?_⟩
            refine pu rfl ?_ (by rintro ⟨_, _, h, _⟩; cases h)
            refine s_storeAg rfl sz25FK rfl rfl B33 rfl rfl rfl ?_
            intro w36 l37 el37 B33
            have z_l37 := l37.size
            have L := L.fresh l37 (by omega)
            have Lq := Lq.fresh l37 (by omega)
            have B1 := B1.ne l37 (by omega)
            have B4 := B4.ne l37 (by omega)
            have B11 := B11.ne l37 (by omega)
            refine c_end ⟨rfl, fun h hS => Lq, ?_⟩
            refine p0 rfl (x_assign (v := .bool _) rfl) ?_
            refine p_nil (np_normal ?_)
            refine n_then ?_
            refine wp_seq ?_
            refine wp_seq ?_
            refine c_reg ?_
            refine s0 (x_move (v := .bool _) rfl) ?_
            refine s0 (x_not rfl) ?_
            refine c_end ?_
            refine n_then ?_
            refine c_true rfl ?_
            refine wp_seq ?_
            refine c_reg ?_
            refine st (x_loadAgB ag25FK rfl B1 rfl) ?_
            refine s_storeAg rfl sz25FK rfl rfl B4 rfl rfl rfl ?_
            intro w38 l39 el39 B4
            have z_l39 := l39.size
            have L := L.fresh l39 (by omega)
            have B1 := B1.ne l39 (by omega)
            have B11 := B11.ne l39 (by omega)
            have B33 := B33.ne l39 (by omega)
            refine s0 (x_assign (v := .int _ _) rfl) ?_
            refine s0 (x_assign (v := .int _ _) rfl) ?_
            refine c_end ?_
            refine n_then ?_
            refine wp_ret (r_then (r_then ?_))
            refine f_rets3 rfl (ro_cell rfl ag25FK B4 rfl) (ro_tmp rfl) (ro_tmp rfl) ?_
            rw [hix] at h43 hq
            exact ⟨fu_no (by rw [hfe, if_pos (Int.not_le.1 fun h5 => h43 (hq.1.2 h5))]) (by decide), L⟩
        · refine pu rfl ?_ (by rintro ⟨_, _, h, _⟩; cases h)
          refine s_alloc zr25FK ?_
          intro b40 w41 lob40 hib40 l42 B40
          have z_l42 := l42.size
          have L := L.tr l42.up
          have Lq := Lq.tr l42.up
          have B1 := B1.ext l42
          have B4 := B4.ext l42
          have B11 := B11.ext l42
          refine c_end ⟨rfl, fun h hS => Lq, ?_⟩
          refine pu rfl ?_ (by rintro ⟨_, _, h, _⟩; cases h)
          refine sr (zcall cl98FK rfl) (s_skip _ (peekC s ca 9) _ _ (by omega)) ?_
          intro w43 l44
          have z_l44 := l44.size
          have L := L.tr l44.up
          have Lq := Lq.tr l44.up
          have B1 := B1.ext l44
          have B4 := B4.ext l44
          have B11 := B11.ext l44
          have B40 := B40.ext l44
          refine c_end ⟨rfl, fun h hS => Lq, ?_⟩
          refine p0 rfl (x_move (v := .tuple _) rfl) ?_
          refine p0 rfl (x_extract rfl rfl) ?_
          refine pb rfl (x_extract rfl rfl) (fun h43 => ?_) (fun h43 => ?_)
          · refine pu rfl ?_ (by rintro ⟨_, _, h, _⟩; cases h)
            refine s_storeAg rfl sz25FK rfl rfl B40 rfl rfl rfl ?_
            intro w45 l46 el46 B40
            have z_l46 := l46.size
            have L := L.fresh l46 (by omega)
            have Lq := Lq.fresh l46 (by omega)
            have B1 := B1.ne l46 (by omega)
            have B4 := B4.ne l46 (by omega)
            have B11 := B11.ne l46 (by omega)
            refine c_end ⟨rfl, fun h hS => Lq, ?_⟩
            refine p0 rfl (x_assign (v := .bool _) rfl) ?_
            refine p_nil (np_normal ?_)
            refine n_then ?_
            refine wp_seq ?_
            refine wp_seq ?_
            refine c_reg ?_
            refine s0 (x_move (v := .bool _) rfl) ?_
            refine s0 (x_not rfl) ?_
            refine c_end ?_
            refine n_then ?_
            refine c_false rfl ?_
            refine c_skipn ?_
            refine n_then ?_
            refine wp_seq ?_
            refine c_plan (fun wq => Exm [b4] w45 wq) 10 (.cons (0, 1) (.cons (2, 2) (.cons (3, 2) (.cons (4, 2) (.cons (5, 2) (.cons (6, 1) (.cons (1, 0) (.cons (7, 0) (.cons (8, 2) (.cons (9, 2) .nil)))))))))) (by kernel_rfl) (by kernel_rfl) (Exm.drew _) ?_
            obtain ⟨w47, hwd⟩ : ∃ x, x = w45.drew := ⟨_, rfl⟩
            have l48 : Ext w45 w47 := by rw [hwd]; exact Exm.drew _
            rw [← hwd]; clear hwd
            have Lq : Exm [b4] w45 w47 := l48.up
            have qB1 := B1
            have qB4 := B4
            have qB11 := B11
            have qB40 := B40
            have qL := L
            have z_l48 := l48.size
            have L := L.tr l48.up
            have B1 := B1.ext l48
            have B4 := B4.ext l48
            have B11 := B11.ext l48
            have B40 := B40.ext l48
            refine ps rfl (fun wq hwq => x_loadAgB ag25FK rfl (qB40.ne hwq (by omega)) rfl) ?_
            refine p0 rfl (x_move (v := .slice _ _ _) rfl) ?_
            refine p0 rfl (x_move (v := .int _ _) rfl) ?_
            refine p0 rfl (x_idx so26FK rfl rfl hp (by decide) (by omega) (by omega)) ?_
            refine p0 rfl (x_fieldAddr fa128_1FK rfl) ?_
            refine ps rfl (fun wq hwq => x_ldf (u := .int _ _) erow_len sc3FK rfl (hp.ext (qL.fresh hwq (by omega))) (by omega) (by omega) (by decide) rfl) ?_
            refine pu rfl ?_ (by rintro ⟨_, _, h, _⟩; cases h)
            refine sr (zcall cl99FK rfl) (s_settle _ (skC s (peekC s ca 9) (t.getD (peekV s ca 9).toNat default).1) _ (by omega)) ?_
            intro w49 l50
            have z_l50 := l50.size
            have L := L.tr l50.up
            have Lq := Lq.tr l50.up
            have B1 := B1.ext l50
            have B4 := B4.ext l50
            have B11 := B11.ext l50
            have B40 := B40.ext l50
            refine c_end ⟨rfl, fun h hS => Lq, ?_⟩
            refine pu rfl ?_ (by rintro ⟨_, _, h, _⟩; cases h)
            refine s_storeAg rfl sz25FK rfl rfl B4 rfl rfl rfl ?_
            intro w51 l52 el52 B4
            have z_l52 := l52.size
            have L := L.fresh l52 (by omega)
            have Lq := Lq.within l52 (by simp)
            have B1 := B1.ne l52 (by omega)
            have B11 := B11.ne l52 (by omega)
            have B40 := B40.ne l52 (by omega)
            refine c_end ⟨rfl, fun h hS => Lq, ?_⟩
            refine p0 rfl (x_assign (v := .int _ _) rfl) ?_
            refine p0 rfl (x_assign (v := .int _ _) rfl) ?_
            refine p_nil (np_normal ?_)
            refine n_then ?_
            refine wp_ret (r_then ?_)
            refine f_rets3 rfl (ro_cell rfl ag25FK B4 rfl) (ro_tmp rfl) (ro_tmp rfl) ?_
            rw [hix] at h43 hq
            exact ⟨by rw [hix, hq.2 h43]; exact fu_yes (by rw [hfe, if_neg (by have := hq.1.1 h43; omega)]) hfa.symm (by rw [if_pos hhit]), L⟩
          · refine pu rfl ?_ (by rintro ⟨_, _, h, _⟩; cases h)
            refine s_storeAg rfl sz25FK rfl rfl B40 rfl rfl rfl ?_
            intro w53 l54 el54 B40
            have z_l54 := l54.size
            have L := L.fresh l54 (by omega)
            have Lq := Lq.fresh l54 (by omega)
            have B1 := B1.ne l54 (by omega)
            have B4 := B4.ne l54 (by omega)
            have B11 := B11.ne l54 (by omega)
            refine c_end ⟨rfl, fun h hS => Lq, ?_⟩
            refine p0 rfl (x_assign (v := .bool _) rfl) ?_
            refine p_nil (np_normal ?_)
            refine n_then ?_
            refine wp_seq ?_
            refine wp_seq ?_
            refine c_reg ?_
            refine s0 (x_move (v := .bool _) rfl) ?_
            refine s0 (x_not rfl) ?_
            refine c_end ?_
            refine n_then ?_
            refine c_true rfl ?_
            refine wp_seq ?_
            refine c_reg ?_
            refine st (x_loadAgB ag25FK rfl B1 rfl) ?_
            refine s_storeAg rfl sz25FK rfl rfl B4 rfl rfl rfl ?_
            intro w55 l56 el56 B4
            have z_l56 := l56.size
            have L := L.fresh l56 (by omega)
            have B1 := B1.ne l56 (by omega)
            have B11 := B11.ne l56 (by omega)
            have B40 := B40.ne l56 (by omega)
            refine s0 (x_assign (v := .int _ _) rfl) ?_
            refine s0 (x_assign (v := .int _ _) rfl) ?_
            refine c_end ?_
            refine n_then ?_
            refine wp_ret (r_then (r_then ?_))
            refine f_rets3 rfl (ro_cell rfl ag25FK B4 rfl) (ro_tmp rfl) (ro_tmp rfl) ?_
            rw [hix] at h43 hq
            exact ⟨fu_no (by rw [hfe, if_pos (Int.not_le.1 fun h5 => h43 (hq.1.2 h5))]) (by decide), L⟩
      · have z_l17 := l17.size
        have L := L.tr l17.up
        have B1 := B1.ext l17
        have B4 := B4.ext l17
        have B11 := B11.ext l17
        refine s0 (x_pickt (v := .bool _) rfl rfl) ?_
        refine c_end ?_
        refine n_then ?_
        refine c_false rfl ?_
        refine c_skipn ?_
        refine n_then ?_
        refine wp_seq ?_
        have hmis : ¬ fuHit s ca t := fun h => h32 (by rw [hix]; exact h.2)
        refine c_reg ?_
        refine st (x_loadAgB ag25FK rfl B1 rfl) ?_
        refine sr (zcall cl100FK rfl) (s_l7Reader _ ca _ (by omega)) ?_
        intro w57 l58
        have z_l58 := l58.size
        have L := L.tr l58.up
        have B1 := B1.ext l58
        have B4 := B4.ext l58
        have B11 := B11.ext l58
        refine sr (zcall cl19FK rfl) (s_ue _ _ _ (by omega)) ?_
        intro w59 l60
        have z_l60 := l60.size
        have L := L.tr l60.up
        have B1 := B1.ext l60
        have B4 := B4.ext l60
        have B11 := B11.ext l60
        refine s0 (x_move (v := .tuple _) rfl) ?_
        refine s0 (x_extract rfl rfl) ?_
        refine s0 (x_extract rfl rfl) ?_
        refine s0 (x_extract rfl rfl) ?_
        refine s_alloc zr35FK ?_
        intro b61 w62 lob61 hib61 l63 B61
        have z_l63 := l63.size
        have L := L.tr l63.up
        have B1 := B1.ext l63
        have B4 := B4.ext l63
        have B11 := B11.ext l63
        refine s_storeAg rfl sz35FK rfl rfl B61 rfl rfl rfl ?_
        intro w64 l65 el65 B61
        have z_l65 := l65.size
        have L := L.fresh l65 (by omega)
        have B1 := B1.ne l65 (by omega)
        have B4 := B4.ne l65 (by omega)
        have B11 := B11.ne l65 (by omega)
        refine s0 (x_assign (v := .int _ _) rfl) ?_
        refine s0 (x_assign (v := .int _ _) rfl) ?_
        refine c_end ?_
        refine n_then ?_
        refine wp_seq ?_
        refine wp_seq ?_
        refine c_reg ?_
        refine s0 (x_move (v := .int _ _) rfl) ?_
        refine sb (x_neq rfl rfl) (fun h62 => ?_) (fun h62 => ?_)
        · refine c_end ?_
          refine n_then ?_
          refine c_true rfl ?_
          refine wp_seq ?_
          refine c_reg ?_
          refine st (x_loadAgB ag25FK rfl B1 rfl) ?_
          refine s0 (x_move (v := .int _ _) rfl) ?_
          refine s_storeAg rfl sz25FK rfl rfl B4 rfl rfl rfl ?_
          intro w66 l67 el67 B4
          have z_l67 := l67.size
          have L := L.fresh l67 (by omega)
          have B1 := B1.ne l67 (by omega)
          have B11 := B11.ne l67 (by omega)
          have B61 := B61.ne l67 (by omega)
          refine s0 (x_assign (v := .int _ _) rfl) ?_
          refine s0 (x_assign (v := .int _ _) rfl) ?_
          refine c_end ?_
          refine n_then ?_
          refine wp_ret (r_then ?_)
          refine f_rets3 rfl (ro_cell rfl ag25FK B4 rfl) (ro_tmp rfl) (ro_tmp rfl) ?_
          have hfe := fuE_miss h15 hmis
          rw [← hpl] at hfe
          exact ⟨fu_no hfe h62, L⟩
        · refine c_end ?_
          refine n_then ?_
          refine c_false rfl ?_
          refine c_skipn ?_
          refine n_then ?_
          refine wp_seq ?_
          refine c_reg ?_
          refine s0 (x_fieldAddr fa25_0FK rfl) ?_
          refine st (x_loadB sc9FK rfl B1 rfl) ?_
          refine s0 (x_fieldAddr fa35_1FK rfl) ?_
          refine st (x_loadB sc3FK rfl B61 rfl) ?_
          refine sr (zcall cl83FK rfl) (s_l7At _ _ _ (by omega) (by omega)) ?_
          intro w68 l69
          have z_l69 := l69.size
          have L := L.tr l69.up
          have B1 := B1.ext l69
          have B4 := B4.ext l69
          have B11 := B11.ext l69
          have B61 := B61.ext l69
          refine s0 (x_move (v := .int _ _) rfl) ?_
          refine s0 (x_move (v := .int _ _) rfl) ?_
          refine s_storeAg rfl sz25FK rfl rfl B4 rfl rfl rfl ?_
          intro w70 l71 el71 B4
          have z_l71 := l71.size
          have L := L.fresh l71 (by omega)
          have B1 := B1.ne l71 (by omega)
          have B11 := B11.ne l71 (by omega)
          have B61 := B61.ne l71 (by omega)
          refine s0 (x_assign (v := .int _ _) rfl) ?_
          refine s0 (x_assign (v := .int _ _) rfl) ?_
          refine c_end ?_
          refine n_then ?_
          refine wp_ret ?_
          refine f_rets3 rfl (ro_cell rfl ag25FK B4 rfl) (ro_tmp rfl) (ro_tmp rfl) ?_
          have hfe := fuE_miss h15 hmis
          have hfa := fuAt_miss hmis
          rw [← hpl] at hfe hfa
          have h0 := Classical.not_not.1 h62
          exact ⟨by rw [h0]; exact fu_yes (hfe.trans h0) hfa.symm (by rw [if_neg hmis, hpl]), L⟩
    · refine s0 (x_move (v := .bool _) rfl) ?_
      refine gf rfl rfl rfl rfl ?_
      refine gf rfl rfl rfl rfl ?_
      refine gf rfl rfl rfl rfl ?_
      refine gf rfl rfl rfl rfl ?_
      refine gf rfl rfl rfl rfl ?_
      refine gf rfl rfl rfl rfl ?_
      refine s0 (x_pickf (v := .bool _) rfl rfl) ?_
      refine c_end ?_
      refine n_then ?_
      refine c_false rfl ?_
      refine c_skipn ?_
      refine n_then ?_
      refine wp_seq ?_
      have hmis : ¬ fuHit s ca t := fun h => h25 (by have := h.1; omega)
      refine c_reg ?_
      refine st (x_loadAgB ag25FK rfl B1 rfl) ?_
      refine sr (zcall cl100FK rfl) (s_l7Reader _ ca _ (by omega)) ?_
      intro w72 l73
      have z_l73 := l73.size
      have L := L.tr l73.up
      have B1 := B1.ext l73
      have B4 := B4.ext l73
      have B11 := B11.ext l73
      refine sr (zcall cl19FK rfl) (s_ue _ _ _ (by omega)) ?_
      intro w74 l75
      have z_l75 := l75.size
      have L := L.tr l75.up
      have B1 := B1.ext l75
      have B4 := B4.ext l75
      have B11 := B11.ext l75
      refine s0 (x_move (v := .tuple _) rfl) ?_
      refine s0 (x_extract rfl rfl) ?_
      refine s0 (x_extract rfl rfl) ?_
      refine s0 (x_extract rfl rfl) ?_
      refine s_alloc zr35FK ?_
      intro b76 w77 lob76 hib76 l78 B76
      have z_l78 := l78.size
      have L := L.tr l78.up
      have B1 := B1.ext l78
      have B4 := B4.ext l78
      have B11 := B11.ext l78
      refine s_storeAg rfl sz35FK rfl rfl B76 rfl rfl rfl ?_
      intro w79 l80 el80 B76
      have z_l80 := l80.size
      have L := L.fresh l80 (by omega)
      have B1 := B1.ne l80 (by omega)
      have B4 := B4.ne l80 (by omega)
      have B11 := B11.ne l80 (by omega)
      refine s0 (x_assign (v := .int _ _) rfl) ?_
      refine s0 (x_assign (v := .int _ _) rfl) ?_
      refine c_end ?_
      refine n_then ?_
      refine wp_seq ?_
      refine wp_seq ?_
      refine c_reg ?_
      refine s0 (x_move (v := .int _ _) rfl) ?_
      refine sb (x_neq rfl rfl) (fun h62 => ?_) (fun h62 => ?_)
      · refine c_end ?_
        refine n_then ?_
        refine c_true rfl ?_
        refine wp_seq ?_
        refine c_reg ?_
        refine st (x_loadAgB ag25FK rfl B1 rfl) ?_
        refine s0 (x_move (v := .int _ _) rfl) ?_
        refine s_storeAg rfl sz25FK rfl rfl B4 rfl rfl rfl ?_
        intro w81 l82 el82 B4
        have z_l82 := l82.size
        have L := L.fresh l82 (by omega)
        have B1 := B1.ne l82 (by omega)
        have B11 := B11.ne l82 (by omega)
        have B76 := B76.ne l82 (by omega)
        refine s0 (x_assign (v := .int _ _) rfl) ?_
        refine s0 (x_assign (v := .int _ _) rfl) ?_
        refine c_end ?_
        refine n_then ?_
        refine wp_ret (r_then ?_)
        refine f_rets3 rfl (ro_cell rfl ag25FK B4 rfl) (ro_tmp rfl) (ro_tmp rfl) ?_
        have hfe := fuE_miss h15 hmis
        rw [← hpl] at hfe
        exact ⟨fu_no hfe h62, L⟩
      · refine c_end ?_
        refine n_then ?_
        refine c_false rfl ?_
        refine c_skipn ?_
        refine n_then ?_
        refine wp_seq ?_
        refine c_reg ?_
        refine s0 (x_fieldAddr fa25_0FK rfl) ?_
        refine st (x_loadB sc9FK rfl B1 rfl) ?_
        refine s0 (x_fieldAddr fa35_1FK rfl) ?_
        refine st (x_loadB sc3FK rfl B76 rfl) ?_
        refine sr (zcall cl83FK rfl) (s_l7At _ _ _ (by omega) (by omega)) ?_
        intro w83 l84
        have z_l84 := l84.size
        have L := L.tr l84.up
        have B1 := B1.ext l84
        have B4 := B4.ext l84
        have B11 := B11.ext l84
        have B76 := B76.ext l84
        refine s0 (x_move (v := .int _ _) rfl) ?_
        refine s0 (x_move (v := .int _ _) rfl) ?_
        refine s_storeAg rfl sz25FK rfl rfl B4 rfl rfl rfl ?_
        intro w85 l86 el86 B4
        have z_l86 := l86.size
        have L := L.fresh l86 (by omega)
        have B1 := B1.ne l86 (by omega)
        have B11 := B11.ne l86 (by omega)
        have B76 := B76.ne l86 (by omega)
        refine s0 (x_assign (v := .int _ _) rfl) ?_
        refine s0 (x_assign (v := .int _ _) rfl) ?_
        refine c_end ?_
        refine n_then ?_
        refine wp_ret ?_
        refine f_rets3 rfl (ro_cell rfl ag25FK B4 rfl) (ro_tmp rfl) (ro_tmp rfl) ?_
        have hfe := fuE_miss h15 hmis
        have hfa := fuAt_miss hmis
        rw [← hpl] at hfe hfa
        have h0 := Classical.not_not.1 h62
        exact ⟨by rw [h0]; exact fu_yes (hfe.trans h0) hfa.symm (by rw [if_neg hmis, hpl]), L⟩
  · have z_l8 := l8.size
    have L := L.tr l8.up
    have B1 := B1.ext l8
    have B4 := B4.ext l8
    refine s0 (x_not rfl) ?_
    refine c_end ?_
    refine n_then ?_
    refine c_true rfl ?_
    refine wp_seq ?_
    refine c_reg ?_
    refine st (x_loadAgB ag25FK rfl B1 rfl) ?_
    refine s_storeAg rfl sz25FK rfl rfl B4 rfl rfl rfl ?_
    intro w87 l88 el88 B4
    have z_l88 := l88.size
    have L := L.fresh l88 (by omega)
    have B1 := B1.ne l88 (by omega)
    refine s0 (x_assign (v := .int _ _) rfl) ?_
    refine s0 (x_assign (v := .int _ _) rfl) ?_
    refine c_end ?_
    refine n_then ?_
    refine wp_ret (r_then ?_)
    refine f_rets3 rfl (ro_cell rfl ag25FK B4 rfl) (ro_tmp rfl) (ro_tmp rfl) ?_
    exact ⟨fu_no (fuE_bad h15) (by decide), L⟩

end Go.Proofs.Ytnehdmcilmlchaa
