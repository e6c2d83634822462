/- Library: an abstract machine over the model, part 8. -/
import Derived.Test.YtmcjdeiicbgmhabAbs7
set_option linter.unusedVariables false
set_option linter.unusedSimpArgs false
namespace Go.Abs
open Go

/-- A function that is given, and gives, data alone, is the same whatever rows the caller has. -/
theorem EvF.lift {P : Program} {f : FuncId} {args : List AVal} {r : AVal} (h : EvF P f args [] r []) (hd : dataAll args = true) (hr : r.data = true) (rows : List Row) : EvF P f args rows r rows := by
  intro X m w vs hrel hvl
  let X2 : Nat → Nat → Prop := fun b o => b < w.heap.size ∧ ¬ Imm ⟨rows, m, w, X⟩ b o
  have hrel2 : Rel ⟨[], m, w, X2⟩ :=
    ⟨fun b o h => h.1, fun i r b hr => by simp at hr, fun i j r s b hr => by simp at hr, fun i r hr => by simp at hr, fun i r hr => by simp at hr, fun i r hr => by simp at hr⟩
  have hvl2 : VL ⟨[], m, w, X2⟩ args vs := by
    refine ⟨hvl.1, fun i hi => ?_⟩
    refine V.mono (N := 0) ?_ (fun id r h _ => absurd h (by omega)) (hvl.2 i hi) (AVal.lt_of_data 0 _ ((dataAll_iff _).1 hd i hi))
    intro b o v hi hc
    exact ⟨⟨hi.1, fun hx => hx.2 hi, fun id r hr => by simp at hr⟩, hc⟩
  refine (h X2 m w vs hrel2 hvl2).mono ?_
  rintro e w' ⟨v, m', rfl, h1, h2, h3, h4⟩
  have hold : ∀ b, b < w.heap.size → w'.heap[b]? = w.heap[b]? := fun b hb => (h4.free b hb (fun id r hr => by simp at hr)).1
  have hsz : w.heap.size ≤ w'.heap.size := h4.size
  have hcell : ∀ b o, b < w.heap.size → w'.cell? ⟨b, o, none⟩ = w.cell? ⟨b, o, none⟩ := fun b o hb => cell_congr (hold b hb)
  have hI : ∀ b o v, Imm ⟨rows, m, w, X⟩ b o → w.cell? ⟨b, o, none⟩ = some v → Imm ⟨rows, m, w', X⟩ b o ∧ w'.cell? ⟨b, o, none⟩ = some v := by
    intro b o v hi hc
    exact ⟨⟨Nat.lt_of_lt_of_le hi.1 hsz, hi.2.1, hi.2.2⟩, by rw [hcell b o hi.1]; exact hc⟩
  have hV : ∀ x v, V ⟨rows, m, w, X⟩ x v → V ⟨rows, m, w', X⟩ x v := fun x v hv => by
    refine V.mono (N := rows.length) hI (fun id s _ hs => ⟨s, hs, RowEvo.keep rfl ?_⟩) hv hv.refLt
    intro hst b o hm hc
    have := hrel.lt hs (by rcases hst with h | h <;> simp [h]) hm
    show (w'.cell? _).isSome = true
    rw [hcell b o this]; exact hc
  refine ⟨v, m, rfl, ⟨fun b o hx => Nat.lt_of_lt_of_le (hrel.xlt b o hx) hsz, hrel.xr, hrel.inj, ?_, hrel.grown, ?_⟩, ?_, Nat.le_refl _, ⟨fun x v hv _ => hV x v hv, hsz, fun b hb hf => ⟨hold b hb, hf⟩, h4.os, h4.tape, h4.output⟩⟩
  · intro i s hs hns hnm
    rcases hrel.own i s hs hns hnm with h | ⟨b, c, e, k1, k2, k3, k4⟩
    · exact .inl h
    · exact .inr ⟨b, c, e, k1, (hold b (lt_of_heap k2)).trans k2, k3, fun j hj => hV _ _ (k4 j hj)⟩
  · intro i s hs hg
    obtain ⟨b, es, k, k1, k2, k3, k4⟩ := hrel.map i s hs hg
    exact ⟨b, es, k, k1, (hold b (lt_of_heap k2)).trans k2, k3, fun j hj => ⟨hV _ _ (k4 j hj).1, hV _ _ (k4 j hj).2⟩⟩
  · refine V.mono (N := 0) ?_ (fun id r h _ => absurd h (by omega)) h2 (AVal.lt_of_data 0 _ hr)
    intro b o u hi hc
    refine ⟨⟨hi.1, ?_, ?_⟩, hc⟩
    · intro hx
      have hb := hrel.xlt b o hx
      exact hi.2.1 ⟨hb, fun hh => hh.2.1 hx⟩
    · intro id s hs hns hm
      have hb := hrel.lt hs hns hm
      have : Imm ⟨rows, m, w, X⟩ b o := Classical.byContradiction fun hn => hi.2.1 ⟨hb, hn⟩
      exact this.2.2 id s hs hns hm

/-- A call that knows nothing of the caller's rows. -/
theorem OpS.callD {P : Program} {o : Oper} {c : Call} {fop : Operand} {f : FuncId} {cap args : List AVal} {ρ : Operand → AVal} {rows : List Row} {r : AVal}
    (ho : o.op = .call c) (hc : c.callee = .value fop) (hf : ρ fop = .fn f cap) (ha : c.args.toList.map ρ ++ cap = args) (he : enterable P f = true) (hd : dataAll args = true) (hr : r.data = true) (h : EvF P f args [] r []) :
    OpS P o ρ rows r rows := OpS.call ho hc hf ha he (h.lift hd hr rows)
end Go.Abs
