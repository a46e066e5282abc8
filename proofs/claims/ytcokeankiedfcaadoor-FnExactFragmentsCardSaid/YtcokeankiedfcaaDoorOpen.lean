/- From an argument that reads as data to the printed words' facts on the memory it lies in: numbers, bools, strings, slices and structs of such, at any depth. -/
import Derived.Test.YtcokeankiedfcaaDoorWWords
import Derived.Test.YtcokeankiedfcaaDoorWMore
import Derived.ChangeArms
import Derived.DataElems
import Derived.DataReads
import Derived.WalkKit
import Derived.ProofKit
import Derived.OpenShut
import Derived.ShutString
import Derived.ChangeOld
import Derived.Below
import Derived.SizedLaws
import Derived.Lib.SmallJoins
namespace Go.Proofs.YtcokeankiedfcaaDoor.Open
open Go.ChangeShapes Go.WideShapes Go.ChangeAt Go.RowKit Go.Joins Go.Deep Go.Proofs.YtcokeankiedfcaaDoorW.PrintWords

def Opens {H : Type} (enc : TypeId × Value → H) (P : Program) (W : World) (t : TypeId) {α : Type} (d : Kd α) (wf : α → Prop) : Prop :=
 ∀ (fuel : Nat) (cs : List Value) (y : DataW H × List MemPlace), DataW.trod enc P W 0 (fun _ => true) true fuel t cs = some y → ∃ x, d.K W x cs ∧ wf x

section
variable {H : Type} {enc : TypeId × Value → H} {P : Program} {W : World}

theorem opens_int {t : TypeId} {k : IntKind} (ht : P.underlying t = some (.int k)) : Opens enc P W t (Kd.int k) (fun n => (Lit.int k n).wf = true) := by
 intro fuel cs y h
 obtain ⟨n, hc, _, hw⟩ := DataW.trod_int ht h
 exact ⟨n, hc, hw⟩
theorem opens_bool {t : TypeId} (ht : P.underlying t = some .bool) : Opens enc P W t Kd.bool (fun _ => True) := by
 intro fuel cs y h
 obtain ⟨b, hc, _⟩ := DataW.trod_bool ht h
 exact ⟨b, hc, trivial⟩
theorem opens_string {t : TypeId} (ht : P.underlying t = some .string) : Opens enc P W t Kd.string (fun s => s.size ≤ maxLen) := by
 intro fuel cs y h
 obtain ⟨s, hc, _, hs⟩ := DataW.trod_string ht h
 exact ⟨s, hc, hs⟩

theorem choose_list {α β : Type} (R : β → α → Prop) : ∀ (l : List β), (∀ b ∈ l, ∃ a, R b a) → ∃ m : List α, m.length = l.length ∧ ∀ (i : Nat) (b : β), l[i]? = some b → ∃ a, m[i]? = some a ∧ R b a
 | [], _ => ⟨[], rfl, fun i b h => by simp at h⟩
 | b :: l, h => by
  obtain ⟨a, ha⟩ := h b List.mem_cons_self
  obtain ⟨m, hm, hr⟩ := choose_list R l (fun c hc => h c (List.mem_cons_of_mem _ hc))
  refine ⟨a :: m, by simp [hm], fun i c hi => ?_⟩
  cases i with
  | zero => simp at hi; subst hi; exact ⟨a, rfl, ha⟩
  | succ i => simpa using hr i c (by simpa using hi)

theorem add_off (a : Addr) (m j : Nat) : (a.add m).add j = a.add (m + j) := Addr.add_add a m j

theorem opens_slice {t e : TypeId} {α : Type} {d : Kd α} {wf : α → Prop} (ht : P.underlying t = some (.slice e)) (hsz : P.cellsOf e = d.sz) (he : Opens enc P W e d wf) :
 Opens enc P W t (Kd.slice e d) (fun l => l.length ≤ maxLen ∧ ∀ x ∈ l, wf x) := by
 intro fuel cs y h
 rcases DataW.trod_slice ht h with ⟨rfl, _⟩ | ⟨a, len, cap, elems, rest, n, _, rfl, _, _, hlc, hcm, hel, helem, _, _⟩
 ·exact ⟨[], ⟨none, 0, rfl, Nat.le_refl _, rfl, by simp, fun hh => absurd hh (by simp)⟩, by simp, fun x hx => by cases hx⟩
 ·have hm : maxLen = 9223372036854775807 := rfl
  have hall : ∀ i ∈ List.range len, ∃ x : α, ∃ c : List Value, c.length = d.sz ∧ d.K W x c ∧ wf x ∧ ∀ j u, c[j]? = some u → W.cell? (a.add (i * d.sz + j)) = some u := by
   intro i hi
   have hi' := List.mem_range.1 hi
   have h1 := helem i hi'
   rw [List.getElem?_eq_getElem (by omega)] at h1
   obtain ⟨c, hc1, hc2⟩ := Option.bind_eq_some_iff.1 h1
   obtain ⟨x, hK, hw⟩ := he _ _ _ hc2
   obtain ⟨_, hl, hc⟩ := World.cells?_some hc1
   rw [hsz] at hl hc
   refine ⟨x, c, hl, hK, hw, fun j u hj => ?_⟩
   have hjl : j < d.sz := by rw [← hl]; exact (List.getElem?_eq_some_iff.1 hj).1
   have := hc j hjl
   rw [add_off] at this
   rw [this]; exact hj
  obtain ⟨m, hml, hmr⟩ := choose_list (fun (i : Nat) (x : α) => ∃ c : List Value, c.length = d.sz ∧ d.K W x c ∧ wf x ∧ ∀ j u, c[j]? = some u → W.cell? (a.add (i * d.sz + j)) = some u) (List.range len) hall
  rw [List.length_range] at hml
  have hget : ∀ i, i < len → ∃ x, m[i]? = some x ∧ ∃ c : List Value, c.length = d.sz ∧ d.K W x c ∧ wf x ∧ ∀ j u, c[j]? = some u → W.cell? (a.add (i * d.sz + j)) = some u := by
   intro i hi
   obtain ⟨x, hx, hr⟩ := hmr i i (by rw [List.getElem?_range hi])
   exact ⟨x, hx, hr⟩
  refine ⟨m, ⟨some a, cap, by rw [hml], by omega, rfl, by omega, fun _ => ⟨a, rfl, fun j p hp => ?_⟩⟩, by omega, fun x hx => ?_⟩
  ·have hj : j < len := by rw [← hml]; exact (List.getElem?_eq_some_iff.1 hp).1
   obtain ⟨x, hx, c, h1, h2, _, h4⟩ := hget j hj
   rw [hx] at hp
   obtain rfl := Option.some.inj hp
   exact ⟨c, h1, h2, h4⟩
  ·obtain ⟨i, hi, rfl⟩ := List.getElem_of_mem hx
   obtain ⟨x, hx, c, h1, h2, h3, h4⟩ := hget i (by omega)
   rw [List.getElem?_eq_getElem hi] at hx
   obtain rfl := Option.some.inj hx
   exact h3

def FieldsOpen (enc : TypeId × Value → H) (P : Program) (W : World) (fs : List Field) (o : Nat) {α : Type} (d : Kd α) (wf : α → Prop) : Prop :=
 ∀ cs : List Value, cs.length = o + d.sz → (∀ f ∈ fs, ∃ fuel y, DataW.trod enc P W 0 (fun _ => true) true fuel f.type ((cs.drop f.offset).take (P.cellsOf f.type)) = some y) → ∃ x, d.K W x (cs.drop o) ∧ wf x

theorem fo_one {f : Field} {o : Nat} {α : Type} {d : Kd α} {wf : α → Prop} (ho : f.offset = o) (hc : P.cellsOf f.type = d.sz) (h : Opens enc P W f.type d wf) : FieldsOpen enc P W [f] o d wf := by
 intro cs hl hf
 obtain ⟨fuel, y, hy⟩ := hf f List.mem_cons_self
 obtain ⟨x, hK, hw⟩ := h _ _ _ hy
 rw [ho, hc, List.take_of_length_le (by rw [List.length_drop]; omega)] at hK
 exact ⟨x, hK, hw⟩
theorem fo_cons {f : Field} {fs : List Field} {o : Nat} {α β : Type} {a : Kd α} {b : Kd β} {wa : α → Prop} {wb : β → Prop} (ho : f.offset = o) (hc : P.cellsOf f.type = a.sz) (h : Opens enc P W f.type a wa) (r : FieldsOpen enc P W fs (o + a.sz) b wb) :
 FieldsOpen enc P W (f :: fs) o (Kd.pair a b) (fun x => wa x.1 ∧ wb x.2) := by
 intro cs hl hf
 have hl' : cs.length = o + (a.sz + b.sz) := hl
 obtain ⟨fuel, y, hy⟩ := hf f List.mem_cons_self
 obtain ⟨x, hK, hw⟩ := h _ _ _ hy
 obtain ⟨z, hK2, hw2⟩ := r cs (by omega) (fun g hg => hf g (List.mem_cons_of_mem _ hg))
 rw [ho, hc] at hK
 refine ⟨(x, z), ⟨(cs.drop o).take a.sz, cs.drop (o + a.sz), ?_, hK, hK2⟩, hw, hw2⟩
 rw [← List.drop_drop, List.take_append_drop]

theorem opens_struct {t : TypeId} {fs : Array Field} {α β : Type} {d : Kd α} {wf : α → Prop} {f : β → α} (g : α → β) (hg : ∀ a, f (g a) = a) (ht : P.underlying t = some (.struct fs)) (hc : P.cellsOf t = d.sz) (h : FieldsOpen enc P W fs.toList 0 d wf) :
 Opens enc P W t (Kd.iso d f) (fun x => wf (f x)) := by
 intro fuel cs y hy
 obtain ⟨xs, n, _, _, hl, hxl, hall⟩ := DataW.trod_struct ht hy
 obtain ⟨x, hK, hw⟩ := h cs (by omega) (fun fl hfl => by
  obtain ⟨i, hi, rfl⟩ := List.getElem_of_mem hfl
  have hi' : i < fs.size := by simpa using hi
  have h1 := hall i fs[i] (by rw [Array.getElem?_eq_getElem hi'])
  rw [List.getElem?_eq_getElem (by omega)] at h1
  exact ⟨n, _, by simpa using h1⟩)
 refine ⟨g x, ?_, by show wf (f (g x)); rw [hg]; exact hw⟩
 show d.K W (f (g x)) cs
 rw [hg]; simpa using hK
end
end Go.Proofs.YtcokeankiedfcaaDoor.Open
