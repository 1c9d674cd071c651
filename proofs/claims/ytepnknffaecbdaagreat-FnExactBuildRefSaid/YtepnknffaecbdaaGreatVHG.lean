/- What each function of this part returns, for every argument that meets its premises. -/
import Derived.Test.YtepnknffaecbdaaGreatProg
import Derived.Test.YtepnknffaecbdaaGreatVSxA
import Derived.Test.YtepnknffaecbdaaGreatVPlA
import Derived.Test.YtepnknffaecbdaaGreatVF4
import Derived.Test.YtepnknffaecbdaaGreatVFF
namespace Go.Proofs.YtepnknffaecbdaaGreat
open Go.Sx Go.Pl Go.RowKit
theorem ag29HG : Ag Tryz.prog 29 7 := ⟨⟨_, Tryz.underlying29⟩, by kernel_rfl⟩
theorem ag45HG : Ag Tryz.prog 45 6 := ⟨⟨_, Tryz.underlying45⟩, by kernel_rfl⟩
theorem cl52HG : Callable Tryz.prog 52 := callable Tryz.func52 (by kernel_rfl) rfl
theorem cl53HG : Callable Tryz.prog 53 := callable Tryz.func53 (by kernel_rfl) rfl
theorem fa29_0HG : FieldAt Tryz.prog 29 0 0 := ⟨_, _, Tryz.underlying29, rfl, rfl, ⟨5, by unfold Sz; kernel_rfl⟩⟩
theorem fa29_1HG : FieldAt Tryz.prog 29 1 6 := ⟨_, _, Tryz.underlying29, rfl, rfl, ⟨0, by unfold Sz; kernel_rfl⟩⟩
theorem fa48_0HG : FieldAt Tryz.prog 48 0 0 := ⟨_, _, Tryz.underlying48, rfl, rfl, ⟨5, by unfold Sz; kernel_rfl⟩⟩
theorem fa48_1HG : FieldAt Tryz.prog 48 1 6 := ⟨_, _, Tryz.underlying48, rfl, rfl, ⟨0, by unfold Sz; kernel_rfl⟩⟩
theorem sc46HG : Sc Tryz.prog 46 := ⟨(.slice 139), by kernel_rfl, trivial⟩
theorem sz26HG : Sz Tryz.prog 26 6 := by unfold Sz; kernel_rfl
theorem sz27HG : Sz Tryz.prog 27 1 := by unfold Sz; kernel_rfl
theorem sz29HG : Sz Tryz.prog 29 7 := by unfold Sz; kernel_rfl
theorem zr29HG : ZeroV Tryz.prog 29 [.int .i64 0, .int .i64 0, .int .i64 0, .bool false, .bool false, .slice none 0 0, .slice none 0 0] := by unfold ZeroV; kernel_rfl
/-- laws.toStream -/
theorem l_toStreamD (a b q : Int) (y z : Bool) (r : Option Addr) (xs : List Int) (e : Nat) (p : Option Addr) (ms : List Mk) (c : Nat) (w : World) (hx : Sl w r xs.length e 1 (ic xs)) (hp : RdMs w p ms c) (hl0 : xs.length ≤ 1099511627776) (hl : ms.length ≤ 1099511627776) (hb : ∀ m ∈ ms, smallM 1099511627776 m) :
    Calls Tryz.prog 19 [.agg [.int .i64 a, .int .i64 b, .int .i64 q, .bool y, .bool z, .slice r xs.length e, .slice p ms.length c].toArray].toArray w (RetP w fun v w' => ∃ r' e' F' p' ms' c' G', v = .agg [.int .i64 a, .int .i64 b, .int .i64 q, .bool y, .bool z, .slice r' xs.length e', .slice p' ms'.length c'].toArray ∧ Own w' r' xs.length e' 3 1 (ic xs) F' ∧ Fr w.heap.size F' ∧ OwN (Km 71 3) w' 34 p' ms' c' G' ∧ Fr w.heap.size G' ∧ ms'.map Mk.pl = ms.map Mk.pl ∧ Dj F' G') := by
 have L : Exm [] w w := Exm.rfl'
 refine enter (n := 13) Tryz.func19 rfl rfl rfl ?_
 refine wp_seq (c_reg (s_box rfl rfl ?_))
 intro b1 w2 lob1 hib1 l3 B1
 have z_l3 := l3.size; have L := L.tr l3.up
 refine s_alloc zr29HG ?_
 intro b4 w5 lob4 hib4 l6 B4
 have z_l6 := l6.size; have L := L.tr l6.up; have B1 := B1.ext l6
 refine c_end (n_then (wp_seq (c_reg (s_alloc zr29HG ?_))))
 intro b7 w8 lob7 hib7 l9 B7
 have z_l9 := l9.size; have L := L.tr l9.up; have B1 := B1.ext l9; have B4 := B4.ext l9
 refine c_end (n_then (wp_seq (c_reg (s0 (x_fieldAddr fa48_0HG rfl) (st (x_loadIn ag45HG rfl B1 [.int _ _, .int _ _, .int _ _, .bool _, .bool _, .slice _ _ _] rfl rfl) ?_)))))
 refine sp (zcall cl52HG rfl) (l_toHeader _ _ _ _ _ _ _ _ _ (hx.ext L) (by omega)) ?_
 rintro v6 w10 l11 ⟨p6, c6, F6, rfl, o6, f6⟩
 have z_l11 := l11.size; have L := L.tr l11.up; have B1 := B1.ext l11; have B4 := B4.ext l11; have B7 := B7.ext l11; have g6 := o6.lt
 refine s0 (x_fieldAddr fa29_0HG rfl) ?_
 refine s_storeIn (cs' := [_, _, _, _, _, _, _]) (vs := [.int _ _, .int _ _, .int _ _, .bool _, .bool _, .slice _ _ _]) rfl sz26HG rfl rfl B7 rfl (Nat.le_of_ble_eq_true rfl) rfl rfl ?_
 intro w12 l13 el13 B7
 have z_l13 := l13.size; have L := L.fresh l13 (by omega); have B1 := B1.ne l13 (by omega); have B4 := B4.ne l13 (by omega); have o6 := o6.ne l13 (by first|assumption|exact nin_of f6 g6 (by omega))
 refine c_end (n_then (wp_seq (c_reg (s0 (x_fieldAddr fa48_1HG rfl) (st (x_loadB sc46HG rfl B1 rfl) ?_)))))
 refine sp (zcall cl53HG rfl) (l_toMbS _ _ _ _ (hp.ext L) (by omega) hb) ?_
 rintro v10 w14 l15 ⟨p10, ms10, c10, F10, rfl, o10, f10, hm10⟩
 have z_l15 := l15.size; have L := L.tr l15.up; have B1 := B1.ext l15; have B4 := B4.ext l15; have B7 := B7.ext l15; have o6 := o6.ext l15; have g10 := o10.lt
 refine s0 (x_fieldAddr fa29_1HG rfl) ?_
 refine s_store (v := .slice _ _ _) (cs' := [_, _, _, _, _, _, _]) rfl sz27HG rfl rfl rfl rfl B7 rfl rfl ?_
 intro w16 l17 el17 B7
 have z_l17 := l17.size; have L := L.fresh l17 (by omega); have B1 := B1.ne l17 (by omega); have B4 := B4.ne l17 (by omega); have o6 := o6.ne l17 (by first|assumption|exact nin_of f6 g6 (by omega))
 have o10 := o10.ne l17 (by first|assumption|exact nin_of f10 g10 (by omega))
 refine c_end (n_then (wp_seq (c_reg (st (x_loadAgB ag29HG rfl B7 rfl) (s_storeAg rfl sz29HG rfl rfl B4 rfl rfl rfl ?_)))))
 intro w18 l19 el19 B4
 have z_l19 := l19.size; have L := L.fresh l19 (by omega); have B1 := B1.ne l19 (by omega); have B7 := B7.ne l19 (by omega); have o6 := o6.ne l19 (by first|assumption|exact nin_of f6 g6 (by omega))
 have o10 := o10.ne l19 (by first|assumption|exact nin_of f10 g10 (by omega))
 refine c_end (n_then (wp_ret (f_retc rfl rfl ag29HG B4 rfl ?_)))
 exact ⟨_, rfl, L, _, _, _, _, _, _, _, rfl, o6, f6.mono (by omega), o10, f10.mono (by omega), hm10, (by first|assumption|exact Dj.symm (by assumption)|exact dj_of f6 g6 f10 g10 (by omega))⟩

end Go.Proofs.YtepnknffaecbdaaGreat
