/- What each function of this part returns, for every argument that meets its premises. -/
import Derived.Test.YtdnckakaoageoaaProg
import Derived.Test.YtdnckakaoageoaaVSxG
import Derived.Test.YtdnckakaoageoaaVPlU
import Derived.Test.YtdnckakaoageoaaVF9
import Derived.Test.YtdnckakaoageoaaVFC
namespace Go.Proofs.Ytdnckakaoageoaa
open Go.Sx Go.Pl Go.RowKit
theorem map_getD {ls : List Li} {i : Nat} : (ls.map Li.xs).getD i [] = (ls.getD i default).xs := by
  simp only [List.getD_eq_getElem?_getD, List.getElem?_map]
  cases ls[i]? <;> rfl
def RdM (w : World) (p : Option Addr) (n c : Nat) (ls : List Li) (M : Nat → Nat → Int) : Prop := n = ls.length ∧ RdL w p n c ls ∧ ls.map Li.xs = tabM M n
section
variable {w w' : World} {p : Option Addr} {n c : Nat} {ls : List Li} {M : Nat → Nat → Int}
theorem RdM.ext (h : RdM w p n c ls M) (k : Ext w w') : RdM w' p n c ls M := ⟨h.1, h.2.1.ext k, h.2.2⟩
theorem RdM.row (h : RdM w p n c ls M) {r : Int} (h0 : 0 ≤ r) (h1 : r < n) : (ls.getD r.toNat default).xs = (List.range n).map (M r.toNat) := by
  rw [← map_getD, h.2.2]; exact tabM_get M (by omega)
theorem RdM.rlen (h : RdM w p n c ls M) {r : Int} (h0 : 0 ≤ r) (h1 : r < n) : (ls.getD r.toNat default).xs.length = n := by
  rw [h.row h0 h1]; simp
theorem RdM.ent (h : RdM w p n c ls M) {r i : Int} (h0 : 0 ≤ r) (h1 : r < n) (h2 : 0 ≤ i) (h3 : i < n) : (ls.getD r.toNat default).xs.getD i.toNat 0 = M r.toNat i.toNat := by
  rw [h.row h0 h1]; exact row_get M (by omega)
end
section
variable {P : Program} {n : Nat} {E : Env} {ty T T' : TypeId} {x y : Operand}
theorem x_mule {a b : Int} (v : Int) (hx : opd n E x = .int .i64 a) (hy : opd n E y = .int .i64 b) (h : a * b = v) (hr : -9223372036854775808 ≤ v ∧ v ≤ 9223372036854775807) : X0 P n E (.binOp .mul T x y T') ty (.int .i64 v) := by
  subst h; exact x_mul hx hy hr
end
end Go.Proofs.Ytdnckakaoageoaa
