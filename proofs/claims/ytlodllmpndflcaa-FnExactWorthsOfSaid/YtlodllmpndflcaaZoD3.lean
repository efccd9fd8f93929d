/-
  The games, the plans that the dice draw.
-/
import Derived.Test.YtlodllmpndflcaaZoFc
import Derived.Test.YtlodllmpndflcaaZoG3
import Derived.Test.YtlodllmpndflcaaZoKf
namespace Go.Proofs.Ytlodllmpndflcaa
set_option linter.unusedVariables false
set_option linter.unusedSimpArgs false
open Go.RowKit
structure Dc where
 bs : List Int
 i : Int
 h : Int
 len : bs.length ≤ 4096
 byt : ∀ j,j < bs.length → 0 ≤ gi bs j ∧ gi bs j ≤ 255
 ok : 0 ≤ i ∧ i ≤ bs.length
def dH (h : Int) : Int:=IntKind.u64.wrap (IntKind.u64.wrap (h * 6364136223846793005) + 1442695040888963407)
def dX (h : Int) : Int:=IntKind.i64.wrap (nW .u64 (rl .u64 (dH h) 33) 16777215)
def Dc.nxt (d : Dc) : Dc:=⟨d.bs,if d.i < d.bs.length then d.i + 1 else d.i,dH d.h,d.len,d.byt,by have:=d.ok;split <;> omega⟩
def Dc.val (d : Dc) (n : Int) : Int:=(if d.i < d.bs.length then IntKind.i64.wrap (dX d.h + IntKind.i64.wrap (gi d.bs d.i.toNat)) else dX d.h).tmod n
theorem tw (h : Int) : 0 ≤ dX h ∧ dX h ≤ 16777215:=by
 have h1 : ∀ a : Int,0 ≤ nW .u64 a 16777215 ∧ nW .u64 a 16777215 ≤ 16777215:=fun a=>by
  unfold nW
  have h2 : (BitVec.ofInt IntKind.u64.bits a &&& BitVec.ofInt IntKind.u64.bits 16777215).toNat ≤ 16777215:=by
   rw [BitVec.toNat_and]
   exact Nat.le_trans Nat.and_le_right (by decide)
  generalize (BitVec.ofInt IntKind.u64.bits a &&& BitVec.ofInt IntKind.u64.bits 16777215).toNat = m at *
  rw [show IntKind.u64.wrap (m : Int) = m by simp [IntKind.wrap,IntKind.bits,IntKind.signed];omega]
  omega
 obtain ⟨h2,h3⟩:=h1 (rl .u64 (dH h) 33)
 unfold dX
 rw [pZ (by omega)]
 exact ⟨h2,h3⟩
theorem Dc.bnd (d : Dc) {n : Int} (hn : 1 ≤ n) : 0 ≤ d.val n ∧ d.val n < n:=by
 have hx:=tw d.h
 have hv : 0 ≤ (if d.i < d.bs.length then IntKind.i64.wrap (dX d.h + IntKind.i64.wrap (gi d.bs d.i.toNat)) else dX d.h):=by
  split
  · rename_i h
    have hb:=d.byt d.i.toNat (by have:=d.ok;omega)
    rw [pZ (n:=gi d.bs d.i.toNat) (by omega),pZ (by omega)]
    omega
  · exact hx.1
 unfold Dc.val
 rw [Int.tmod_eq_emod_of_nonneg hv]
 exact ⟨Int.emod_nonneg _ (by omega),Int.emod_lt_of_pos _ (by omega)⟩
end Go.Proofs.Ytlodllmpndflcaa
namespace Go.Proofs.Ytlodllmpndflcaa
set_option linter.unusedVariables false
set_option linter.unusedSimpArgs false
open Go.RowKit
end Go.Proofs.Ytlodllmpndflcaa
namespace Go.Proofs.Ytlodllmpndflcaa
set_option linter.unusedVariables false
set_option linter.unusedSimpArgs false
open Go.RowKit
end Go.Proofs.Ytlodllmpndflcaa
