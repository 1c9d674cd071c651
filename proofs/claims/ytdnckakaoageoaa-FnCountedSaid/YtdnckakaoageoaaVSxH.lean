/- Blocks that can be read, with what they lie in; numbers stored into an inner slice. -/
import Derived.Test.YtdnckakaoageoaaVSxG
namespace Go.Sx
open Go.RowKit
theorem Rdf.sub {w : World} {p : Option Addr} {n c sz : Nat} {cells : List Value} {F G : List Nat} (h : Rdf w p n c sz cells F) (hs : ∀ b ∈ F, b ∈ G) (hG : Lt G w.heap.size) : Rdf w p n c sz cells G := ⟨h.1, fun h0 a ha => hs _ (h.2.1 h0 a ha), hG⟩
theorem Rdf.cutg {α : Type} {w : World} {p : Option Addr} {n c sz : Nat} {F : List Nat} {f : α → List Value} {xs : List α} {l k : Nat} (hf : ∀ x, (f x).length = sz) (h : Rdf w p n c sz (xs.flatMap f) F) (hm : n = xs.length) (h1 : l ≤ k) (h2 : k ≤ n) : Rdf w (cutp p c l sz) ((xs.drop l).take (k - l)).length (c - l) sz (((xs.drop l).take (k - l)).flatMap f) F := by
  refine ⟨h.1.cutr hf hm h1 h2, fun h0 a ha => ?_, h.lt⟩
  obtain ⟨b, hb, he⟩ := cutp_block ha
  rw [List.length_take, List.length_drop] at h0
  rw [← he]; exact h.2.1 (by omega) b hb
def RdBF (w : World) (p : Option Addr) (bs : List Bk) (c : Nat) (F : List Nat) : Prop := Rdf w p bs.length c 2 (bs.flatMap brow) F ∧ ∀ b ∈ bs, Rdf w b.p b.lv.length b.c 1 (ic b.lv) F
section
variable {w w' : World} {p : Option Addr} {bs : List Bk} {c : Nat} {F : List Nat}
theorem RdBF.exm {M : List Nat} (h : RdBF w p bs c F) (k : Exm M w w') (hm : Dj M F) : RdBF w' p bs c F := ⟨h.1.exm k hm, fun b hb => (h.2 b hb).exm k hm⟩
theorem RdBF.ext (h : RdBF w p bs c F) (k : Ext w w') : RdBF w' p bs c F := h.exm k dj_nil
theorem RdBF.ne {b : Nat} (h : RdBF w p bs c F) (k : Exm [b] w w') (hb : b ∉ F) : RdBF w' p bs c F := h.exm k (dj_one hb)
theorem RdBF.lt (h : RdBF w p bs c F) : Lt F w.heap.size := h.1.lt
theorem RdBF.sl (h : RdBF w p bs c F) : Sl w p bs.length c 2 (bs.flatMap brow) := h.1.1
theorem RdBF.rd (h : RdBF w p bs c F) : RdBs w p bs c := ⟨h.1.1, fun b hb => (h.2 b hb).1⟩
theorem OwN.rdbf {T e : TypeId} (h : OwN (Kb T) w e p bs c F) : RdBF w p bs c F := by
  have hl := h.lt
  obtain ⟨F0, h1, h2, rfl, h4⟩ := h
  exact ⟨h1.rdf.sub (fun b hb => List.mem_append_left _ hb) hl, fun x hx => Rdf.sub (Own.rdf (h2 x hx)) (fun b hb => List.mem_append_right _ (mem_ft hx hb)) hl⟩
theorem RdBF.cut (h : RdBF w p bs c F) {k : Nat} (hk : k ≤ bs.length) : RdBF w (cutp p c 0 2) ((bs.drop 0).take (k - 0)) (c - 0) F :=
  ⟨h.1.cutg brow_len rfl (Nat.zero_le _) hk, fun b hb => h.2 b (List.mem_of_mem_drop (List.mem_of_mem_take hb))⟩
end
theorem pick6 {a b c d e f x : Int} (h : ∃ j : Nat, j < [a, b, c, d, e, f].length ∧ x = [a, b, c, d, e, f].getD j 0) : x = a ∨ x = b ∨ x = c ∨ x = d ∨ x = e ∨ x = f := by
  obtain ⟨j, hj, rfl⟩ := h
  match j, hj with
  | 0, _ => exact .inl rfl
  | 1, _ => exact .inr (.inl rfl)
  | 2, _ => exact .inr (.inr (.inl rfl))
  | 3, _ => exact .inr (.inr (.inr (.inl rfl)))
  | 4, _ => exact .inr (.inr (.inr (.inr (.inl rfl))))
  | 5, _ => exact .inr (.inr (.inr (.inr (.inr rfl))))
  | j + 6, h => simp at h; omega
section
variable {P : Program} {ops : Array Oper} {Q : Exit → Act → World → Prop} {rest : List Oper} {n : Nat} {E : Env} {ty T TI e : TypeId} {pos : String} {after : Array Edge} {w : World} {x y : Operand} {p : Option Addr} {c : Nat} {bs : List Bk} {F : List Nat}
theorem s_stoiB {dst : Option Tmp} {i j v : Int} (hd : dst = none) (hT : Sz P T 1) (hx : opd n E x = pt (blk (bs.getD i.toNat default).p) (off (bs.getD i.toNat default).p + j.toNat * 1)) (hy : opd n E y = .int .i64 v) (ho : OwN (Kb TI) w e p bs c F) (h0 : 0 ≤ i) (hi : i < bs.length) (j0 : 0 ≤ j) (hj : j < (bs.getD i.toNat default).lv.length)
    (k : ∀ w', Exm F w w' → w'.heap.size = w.heap.size → OwN (Kb TI) w' e p (bs.set i.toNat { (bs.getD i.toNat default) with lv := (bs.getD i.toNat default).lv.set j.toNat v }) c F → WL P ops Q rest (mk n E) w') :
    WL P ops Q (⟨dst, .store T x y, ty, pos, after, none⟩ :: rest) (mk n E) w := by
  have hg := get_some h0 hi
  have hin : Own w (bs.getD i.toNat default).p (bs.getD i.toNat default).lv.length (bs.getD i.toNat default).c TI 1 (ic (bs.getD i.toNat default).lv) (bs.getD i.toNat default).F := ho.inner _ (List.mem_of_getElem? hg)
  refine s_stoi hd hT hx hy hin j0 hj fun w' e1 e2 e3 => ?_
  refine k w' (Exm.withinL Exm.rfl' e1 (ho.sub hg)) e2 (ho.turn hg e1 ?_ ?_ rfl)
  · show Own w' (bs.getD i.toNat default).p ((bs.getD i.toNat default).lv.set j.toNat v).length (bs.getD i.toNat default).c TI 1 (ic ((bs.getD i.toNat default).lv.set j.toNat v)) (bs.getD i.toNat default).F
    rw [List.length_set]; exact e3
  · show [Value.int .i64 (bs.getD i.toNat default).mode, .slice (bs.getD i.toNat default).p ((bs.getD i.toNat default).lv.set j.toNat v).length (bs.getD i.toNat default).c] = _
    rw [List.length_set]; rfl
end
end Go.Sx
