/- '[]byte(s)' of a string that is no constant, as an event of a printed walk: what it makes is read, not written. No condition. -/
import Derived.Test.YtcokeankiedfcaaDoorWWords
import Derived.Test.YtcokeankiedfcaaDoorWLast
import Derived.Test.YtcokeankiedfcaaDoorWMore
set_option linter.unusedVariables false
namespace Go.Proofs.YtcokeankiedfcaaDoorW.PrintWords
open Go.RowKit
namespace Kd
section
variable {P : Program} {ops : Array Oper} {rest : List Oper} {o : Oper} {a : Act} {Q : Exit → Act → World → Prop}
theorem C_bytes {w0 W : World} (base : Nat) (hgd : o.guard = none) {N : Tmp} (_hd : o.dst = some N) (src dst e : TypeId) {u : TypeDesc} (x : Operand) (ho : o.op = .convert src dst x) (s : ByteArray) (hx : a.eval x = .string s)
    (hs : P.underlying src = some u) (hdst : P.underlying dst = some (.slice e)) (he : P.underlying e = some (.int .u8)) (hl : s.size ≤ 9223372036854775807) {y : List Int} (hy : y = bytesOf s) (HB : Below base w0 W) (hbase : base ≤ W.heap.size)
    (h : ∀ (A : Option Addr) (c : Nat) (w1 : World), (Kd.int .u8).C w1 A y.length y → y.length ≤ c → Below base w0 w1 → W.grownBy w1 none → wpList P ops Q rest (a.put o.dst (.slice A y.length c)) w1) : wpList P ops Q (o :: rest) a W := by
  subst hy
  have hr := print_bytes (P := P) src dst e hs hdst he s W
  refine event_run hgd (v := .slice (some ⟨W.heap.size, 0, none⟩) s.size (grownCap W s.size 0 e)) (w1 := Lib.bytesWorld W e s) (by simp [execOp, ho, hx, hr]) ?_
  have h' := h (some ⟨W.heap.size, 0, none⟩) (grownCap W s.size 0 e) (Lib.bytesWorld W e s) (by rw [bytesOf_length]; exact C_of_reads (readsInt_of.1 (bytes_reads W e s hl))) (by rw [bytesOf_length]; exact grownCap_ge _ _ _ _)
    (bytes_below HB hbase e s) (grown_of_below (bytes_below (Below.refl _ _) (Nat.le_refl _) e s) none)
  rw [bytesOf_length] at h'
  exact h'
end
end Kd
end Go.Proofs.YtcokeankiedfcaaDoorW.PrintWords
