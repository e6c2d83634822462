/- Library: an abstract machine over the model, part 27. -/
import Derived.Test.YtmcjdeiicbgmhabAbs26
import Derived.WalkKit
import Derived.ProofKit
import Derived.OpenShut
import Derived.ShutString
import Derived.ChangeOld
import Derived.Below
set_option linter.unusedVariables false
set_option linter.unusedSimpArgs false
namespace Go.Abs
open Go Go.ChangeShapes Go.WideShapes Go.RowKit

/-- The world as it is handed in: nothing is mine. -/
def env0 (w : World) : Env := ⟨[], fun _ => none, w, fun _ _ => False⟩
theorem rel0 (w : World) : Rel (env0 w) :=
  ⟨fun b o h => h.elim, fun i r b hr => by simp [env0] at hr, fun i j r s b hr => by simp [env0] at hr, fun i r hr => by simp [env0] at hr, fun i r hr => by simp [env0] at hr, fun i r hr => by simp [env0] at hr⟩
theorem imm0 {w : World} {b o : Nat} {v : Value} (h : w.cell? ⟨b, o, none⟩ = some v) : Imm (env0 w) b o := by
  refine ⟨?_, fun h => h, fun i r hr => by simp [env0] at hr⟩
  rcases Nat.lt_or_ge b w.heap.size with h' | h'
  · exact h'
  · simp [World.cell?, Array.getElem?_eq_none h'] at h

/-- A law that answers true does, and leaves what was there. -/
theorem law_calls {P : Program} {f : FuncId} {args : List AVal} {vs : List Value} {w : World} (h : EvD P f args (.sc (.bool true))) (hv : VL (env0 w) args vs) :
    Calls P f vs.toArray w fun e w' => e = .returned (.bool true) ∧ Below w.heap.size w w' := by
  refine (h [] (fun _ _ => False) (fun _ => none) w vs (rel0 w) hv).mono ?_
  rintro e w' ⟨v, m', rfl, h1, h2, h3, h4⟩
  have := h2.sc_inv
  subst this
  exact ⟨rfl, h4.os, h4.tape, h4.output, h4.size, fun k hk => (h4.free k hk (fun i r hr => by simp at hr)).1⟩

theorem VL.nil' {E : Env} : VL E [] [] := ⟨rfl, fun i hi => by simp at hi⟩
theorem VL.cons' {E : Env} {x : AVal} {v : Value} {xs : List AVal} {vs : List Value} (h : V E x v) (k : VL E xs vs) : VL E (x :: xs) (v :: vs) :=
  ⟨by simp [k.1], fun i hi => by
    cases i with
    | zero => simpa using h
    | succ i => simpa using k.2 i (by simpa using hi)⟩

theorem okWide_spot {P : Program} {w : World} {r : Reach} {base : Nat} {t e : TypeId} {a : Addr} {l c : Nat} (ht : P.underlying t = some (.slice e)) (h : Value.okWide P w r base t (.slice (some a) l c)) : a.spot = none := by
  simp only [Value.okWide, ht, Cell.okWide, Cell.ok] at h
  exact h.2.2.2.1

section
variable {H : Type} {enc : TypeId × Value → H} {P : Program}
/-- Bytes that are handed in. -/
theorem arg_bytes {w : World} {r : Reach} {base b0 : Nat} {spare : Nat → Bool} {held : Bool} {t e : TypeId} {v : Value} {fuel : Nat} {x : DataW H × List MemPlace} (ht : P.underlying t = some (.slice e)) (he : P.underlying e = some (.int .u8)) (hc : P.cellsOf e = 1)
    (hok : Value.okWide P w r base t v) (hf : DataW.trod enc P w b0 spare held fuel t v.cells.toList = some x) : ∃ xs : List Int, Bts xs ∧ V (env0 w) (.sl (u8s xs) xs.length .any) v := by
  obtain ⟨a0, len0, cap0, rfl⟩ := okWide_slice ht hok
  rcases ChangeShapes.open_ints ht he hc hf with ⟨hcs, _⟩ | ⟨a, l, c, zs, hcs, _, hl, hm, hz, _, hcell, hwz⟩
  · simp [Value.cells] at hcs
    obtain ⟨rfl, rfl, rfl⟩ := hcs
    exact ⟨[], Bts.nil, .slnil _ (by simp)⟩
  · simp [Value.cells] at hcs
    obtain ⟨rfl, rfl, rfl⟩ := hcs
    have hsp := okWide_spot ht hok
    obtain ⟨b, o, sp⟩ := a
    simp at hsp
    subst hsp
    have hlz : len0 ≤ zs.length := by rw [hz]; split <;> omega
    have hxl : (zs.take len0).length = len0 := by simp; omega
    refine ⟨zs.take len0, fun n hn => ?_, ?_⟩
    · have := hwz n (List.mem_of_mem_take hn)
      simp only [Lit.wf, Bool.and_eq_true, decide_eq_true_eq] at this
      have e1 : IntKind.u8.min = 0 := by decide
      have e2 : IntKind.u8.max = 255 := by decide
      rw [e1, e2] at this
      omega
    · rw [hxl]
      refine .sl _ len0 .any b o cap0 (fun i => .int .u8 (zs.getD i 0)) (.inl rfl) hl (dataAll_u8s _) (fun i hi => ?_) (fun i hi => ?_)
      · rw [u8s_length, hxl] at hi
        rw [u8s_getD _ _ (by omega)]
        have : (zs.take len0).getD i 0 = zs.getD i 0 := by simp [List.getD_eq_getElem?_getD, List.getElem?_take, hi]
        rw [this]; exact .sc _ rfl
      · rw [u8s_length, hxl] at hi
        have := hcell i (by omega)
        rw [addr_add] at this
        exact ⟨this, imm0 this⟩
end
end Go.Abs
