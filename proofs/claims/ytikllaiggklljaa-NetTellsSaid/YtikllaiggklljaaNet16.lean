/- Walks and laws. -/
import Derived.Test.YtikllaiggklljaaNet15
import Derived.Test.YtikllaiggklljaaLibC
set_option maxRecDepth 100000
set_option maxHeartbeats 0
set_option linter.unusedSimpArgs false
set_option linter.unusedVariables false
namespace Go.Net
open Go Go.Abs Go.Proofs
theorem tells_a (l : List FlD) (next x to a b : Int) (d : List Int) (hx : l.length ≤ 1000000000000000) (hn : -9223372036854775808 ≤ next ∧ next ≤ 9223372036854775807) (ha64 : -9223372036854775808 ≤ a ∧ a ≤ 9223372036854775807) (hb8 : 0 ≤ b ∧ b < 256) (hb : BtsL l) (hd : Bts d) (hf : ¬ fewP l) : EvD Try.prog 8 [.agg [.sl (flsc l) l.length .any, .sc (.int .i64 next)], .sc (.int .i64 x), .sc (.int .i64 to), .sc (.int .i64 a), .sc (.int .u8 b), .sl (u8s d) d.length .any] (.sc (.bool true)) := by
  refine EvD.body Try.func8 rfl (by simp [flc, dataAll, AVal.data, *]) (by simp [flc, dataAll, AVal.data, *]) ?_
  refine AWP.seq ?_
  refine TO ⟨[.agg [.sl (flsc l) (List.length l) .any, (I6 next)], (I6 x), (I6 to), (I6 a), .sc (.int .u8 (b)), .sl (u8s d) (List.length d) .any] ++ UU 148, []⟩ ?_
  refine AWP.reg (RT 2 ?_)
  refine AWP.seq (AWP.seq (KL [0] ⟨[U6, (I6 x), (I6 to), (I6 a), .sc (.int .u8 (b)), .sl (u8s d) (List.length d) .any, .ptr 0 0] ++ UU 5 ++ [(B6 false)] ++ UU 141, [⟨[.sl (flsc l) (List.length l) .any, (I6 next)], 2, .fresh⟩]⟩ ?_))
  refine AWP.reg (PI 1 (2 ≤ 2 ∧ True) ⟨(by omega), trivial⟩ ?_)
  refine CD (dec_f (few l next hx) hf) ?_
  refine RT 3 ?_
  refine KL (NN 25 7) ⟨[U6, (I6 x), (I6 to), (I6 a), .sc (.int .u8 (b)), .sl (u8s d) (List.length d) .any, .ptr 0 0] ++ UU 5 ++ [(B6 false)] ++ UU 19 ++ [(B6 true)] ++ UU 121, [⟨[.sl (flsc l) (List.length l) .any, (I6 next)], 2, .fresh⟩]⟩ ?_
  refine CN true (fun _ => ?_) (fun h => nomatch h)
  refine SQ (CD (heads) ?_)
  refine RT 1 ?_
  refine AWP.ret FA
theorem tells_b (l : List FlD) (next x to a b : Int) (d : List Int) (hx : l.length ≤ 1000000000000000) (hn : -9223372036854775808 ≤ next ∧ next ≤ 9223372036854775807) (ha64 : -9223372036854775808 ≤ a ∧ a ≤ 9223372036854775807) (hb8 : 0 ≤ b ∧ b < 256) (hb : BtsL l) (hd : Bts d) (hf : fewP l) (hk : ¬ d.length ≤ 2000) : EvD Try.prog 8 [.agg [.sl (flsc l) l.length .any, .sc (.int .i64 next)], .sc (.int .i64 x), .sc (.int .i64 to), .sc (.int .i64 a), .sc (.int .u8 b), .sl (u8s d) d.length .any] (.sc (.bool true)) := by
  refine EvD.body Try.func8 rfl (by simp [flc, dataAll, AVal.data, *]) (by simp [flc, dataAll, AVal.data, *]) ?_
  refine AWP.seq ?_
  refine TO ⟨[.agg [.sl (flsc l) (List.length l) .any, (I6 next)], (I6 x), (I6 to), (I6 a), .sc (.int .u8 (b)), .sl (u8s d) (List.length d) .any] ++ UU 148, []⟩ ?_
  refine AWP.reg (RT 2 ?_)
  refine AWP.seq (AWP.seq (KL [0] ⟨[U6, (I6 x), (I6 to), (I6 a), .sc (.int .u8 (b)), .sl (u8s d) (List.length d) .any, .ptr 0 0] ++ UU 5 ++ [(B6 false)] ++ UU 141, [⟨[.sl (flsc l) (List.length l) .any, (I6 next)], 2, .fresh⟩]⟩ ?_))
  refine AWP.reg (PI 1 (2 ≤ 2 ∧ True) ⟨(by omega), trivial⟩ ?_)
  refine CD (dec_t (few l next hx) hf) ?_
  refine RT 6 ?_
  refine KL (NN 25 7) ⟨[U6, (I6 x), (I6 to), (I6 a), .sc (.int .u8 (b)), .sl (u8s d) (List.length d) .any, .ptr 0 0] ++ UU 5 ++ [(B6 false)] ++ UU 19 ++ [(B6 (decide ((↑(List.length d) : Int) > 2000)))] ++ UU 121, [⟨[.sl (flsc l) (List.length l) .any, (I6 next)], 2, .fresh⟩]⟩ ?_
  refine CN (decide ((↑(List.length d) : Int) > 2000)) (fun h1 => ?_) (fun h1 => ?_)
  · have h1' := of_decide_eq_true h1
    refine SQ (CD (heads) ?_)
    refine RT 1 ?_
    refine AWP.ret FA
  · have h1' := of_decide_eq_false h1
    exfalso; omega
theorem tells_c (l : List FlD) (next x to a b : Int) (d : List Int) (hx : l.length ≤ 1000000000000000) (hn : -9223372036854775808 ≤ next ∧ next ≤ 9223372036854775807) (ha64 : -9223372036854775808 ≤ a ∧ a ≤ 9223372036854775807) (hb8 : 0 ≤ b ∧ b < 256) (hb : BtsL l) (hd : Bts d) (hf : fewP l) (hk : d.length ≤ 2000) : EvD Try.prog 8 [.agg [.sl (flsc l) l.length .any, .sc (.int .i64 next)], .sc (.int .i64 x), .sc (.int .i64 to), .sc (.int .i64 a), .sc (.int .u8 b), .sl (u8s d) d.length .any] (.sc (.bool true)) := by
  obtain ⟨A1, n1, x1, e1, hA1, hB1, s1, s2⟩ := send_pair l next hf hb hn to d hd
  obtain ⟨A2, n2, x2, e2, hA2, hB2, d1, d2⟩ := double_pair l next hf hb hn x
  obtain ⟨A3, n3, e3, hA3, hB3, p1, p2⟩ := spoil_pair l next hf hb hn x a b ha64 hb8
  obtain ⟨A4, n4, e4, f4, hA4, hB4, hF4, t1, t2⟩ := take_pair l next hf hb hn x
  refine EvD.body Try.func8 rfl (by simp [flc, dataAll, AVal.data, *]) (by simp [flc, dataAll, AVal.data, *]) ?_
  refine AWP.seq ?_
  refine TO ⟨[.agg [.sl (flsc l) (List.length l) .any, (I6 next)], (I6 x), (I6 to), (I6 a), .sc (.int .u8 (b)), .sl (u8s d) (List.length d) .any] ++ UU 148, []⟩ ?_
  refine AWP.reg (RT 2 ?_)
  refine AWP.seq (AWP.seq (KL [0] ⟨[U6, (I6 x), (I6 to), (I6 a), .sc (.int .u8 (b)), .sl (u8s d) (List.length d) .any, .ptr 0 0] ++ UU 5 ++ [(B6 false)] ++ UU 141, [⟨[.sl (flsc l) (List.length l) .any, (I6 next)], 2, .fresh⟩]⟩ ?_))
  refine AWP.reg (PI 1 (2 ≤ 2 ∧ True) ⟨(by omega), trivial⟩ ?_)
  refine CD (dec_t (few l next hx) hf) ?_
  refine RT 6 ?_
  refine KL (NN 25 7) ⟨[U6, (I6 x), (I6 to), (I6 a), .sc (.int .u8 (b)), .sl (u8s d) (List.length d) .any, .ptr 0 0] ++ UU 5 ++ [(B6 false)] ++ UU 19 ++ [(B6 (decide ((↑(List.length d) : Int) > 2000)))] ++ UU 121, [⟨[.sl (flsc l) (List.length l) .any, (I6 next)], 2, .fresh⟩]⟩ ?_
  refine CN (decide ((↑(List.length d) : Int) > 2000)) (fun h1 => ?_) (fun h1 => ?_)
  · have h1' := of_decide_eq_true h1
    exfalso; omega
  · have h1' := of_decide_eq_false h1
    refine AWP.skip (SQ (PI 3 (2 ≤ 2 ∧ True ∧ True ∧ True) ⟨(by omega), trivial, trivial, trivial⟩ ?_))
    refine CD (s1) ?_
    refine RI (True ∧ True ∧ True ∧ True ∧ True ∧ 2 ≤ 2 ∧ True ∧ True ∧ True) ⟨trivial, trivial, trivial, trivial, trivial, (by omega), trivial, trivial, trivial⟩ ?_
    refine AWP.seq (KL ([32] ++ NN 34 8) ⟨[U6, (I6 x), (I6 to), (I6 a), .sc (.int .u8 (b)), .sl (u8s d) (List.length d) .any, .ptr 0 0] ++ UU 5 ++ [(B6 false), .ptr 1 0, (I6 x1), (I6 e1)] ++ UU 138, [⟨[.sl (flsc l) (List.length l) .any, (I6 next)], 2, .fresh⟩, ⟨[.sl (flsc A1) (List.length A1) .any, (I6 n1)], 2, .fresh⟩]⟩ ?_)
    refine AWP.reg (PI 3 (2 ≤ 2 ∧ True ∧ True ∧ True) ⟨(by omega), trivial, trivial, trivial⟩ ?_)
    refine CD (s2) ?_
    refine RI (True ∧ True ∧ True ∧ True ∧ True ∧ 2 ≤ 2 ∧ True ∧ True ∧ True) ⟨trivial, trivial, trivial, trivial, trivial, (by omega), trivial, trivial, trivial⟩ ?_
    refine AWP.seq (AWP.seq (KL ([2, 5] ++ NN 42 8) ⟨[U6, (I6 x), U6, (I6 a), .sc (.int .u8 (b)), U6, .ptr 0 0] ++ UU 5 ++ [(B6 false), .ptr 1 0, (I6 x1), (I6 e1), .ptr 2 0, (I6 x1), (I6 e1)] ++ UU 135, [⟨[.sl (flsc l) (List.length l) .any, (I6 next)], 2, .fresh⟩, ⟨[.sl (flsc A1) (List.length A1) .any, (I6 n1)], 2, .fresh⟩, ⟨[.sl (flsc A1) (List.length A1) .any, (I6 n1)], 2, .fresh⟩]⟩ ?_))
    refine AWP.reg (PI 2 (2 ≤ 2 ∧ 2 ≤ 2 ∧ True) ⟨(by omega), (by omega), trivial⟩ ?_)
    refine CD (same_refl A1 n1 hA1 hB1) ?_
    refine PT 7 7 ?_
    refine DerQ.to ⟨[U6, (I6 x), U6, (I6 a), .sc (.int .u8 (b)), U6, .ptr 0 0] ++ UU 5 ++ [(B6 false), .ptr 1 0, (I6 x1), (I6 e1), .ptr 2 0, (I6 x1), (I6 e1)] ++ UU 31 ++ [.agg [.sl (flsc A1) (List.length A1) .any, (I6 n1)], .agg [.sl (flsc A1) (List.length A1) .any, (I6 n1)], (B6 true), (B6 false), (B6 false), (I6 x1), (I6 x1), (B6 (x1 != x1)), (B6 (x1 != x1)), (B6 (x1 != x1))] ++ UU 94, [⟨[.sl (flsc l) (List.length l) .any, (I6 next)], 2, .fresh⟩, ⟨[.sl (flsc A1) (List.length A1) .any, (I6 n1)], 2, .fresh⟩, ⟨[.sl (flsc A1) (List.length A1) .any, (I6 n1)], 2, .fresh⟩]⟩ (by kernel_rfl) ?_
    cases h2 : (x1 != x1)
    · have h2' := bne_eq_false_iff_eq.1 h2
      refine RT 4 ?_
      refine KL (NN 50 13) ⟨[U6, (I6 x), U6, (I6 a), .sc (.int .u8 (b)), U6, .ptr 0 0] ++ UU 5 ++ [(B6 false), .ptr 1 0, (I6 x1), (I6 e1), .ptr 2 0, (I6 x1), (I6 e1)] ++ UU 44 ++ [(B6 (e1 != e1))] ++ UU 90, [⟨[.sl (flsc l) (List.length l) .any, (I6 next)], 2, .fresh⟩, ⟨[.sl (flsc A1) (List.length A1) .any, (I6 n1)], 2, .fresh⟩, ⟨[.sl (flsc A1) (List.length A1) .any, (I6 n1)], 2, .fresh⟩]⟩ ?_
      refine CN (e1 != e1) (fun h3 => ?_) (fun h3 => ?_)
      · have h3' := bne_iff_ne.1 h3
        exfalso; omega
      · have h3' := bne_eq_false_iff_eq.1 h3
        refine AWP.skip (SQ (PI 2 (2 ≤ 2 ∧ True ∧ True) ⟨(by omega), trivial, trivial⟩ ?_))
        refine CD (d1) ?_
        refine RI (True ∧ True ∧ True ∧ True ∧ 2 ≤ 2 ∧ True ∧ True ∧ True) ⟨trivial, trivial, trivial, trivial, (by omega), trivial, trivial, trivial⟩ ?_
        refine AWP.seq (KL (NN 63 8) ⟨[U6, (I6 x), U6, (I6 a), .sc (.int .u8 (b)), U6, .ptr 0 0] ++ UU 5 ++ [(B6 false), .ptr 1 0, (I6 x2), (I6 e2), .ptr 2 0, (I6 x1), (I6 e1)] ++ UU 135, [⟨[.sl (flsc l) (List.length l) .any, (I6 next)], 2, .fresh⟩, ⟨[.sl (flsc A2) (List.length A2) .any, (I6 n2)], 2, .fresh⟩, ⟨[.sl (flsc A1) (List.length A1) .any, (I6 n1)], 2, .fresh⟩]⟩ ?_)
        refine AWP.reg (PI 2 (2 ≤ 2 ∧ True ∧ True) ⟨(by omega), trivial, trivial⟩ ?_)
        refine CD (d2) ?_
        refine RI (True ∧ True ∧ True ∧ True ∧ 2 ≤ 2 ∧ True ∧ True ∧ True) ⟨trivial, trivial, trivial, trivial, (by omega), trivial, trivial, trivial⟩ ?_
        refine AWP.seq (AWP.seq (KL (NN 71 7) ⟨[U6, (I6 x), U6, (I6 a), .sc (.int .u8 (b)), U6, .ptr 0 0] ++ UU 5 ++ [(B6 false), .ptr 1 0, (I6 x2), (I6 e2), .ptr 2 0, (I6 x2), (I6 e2)] ++ UU 135, [⟨[.sl (flsc l) (List.length l) .any, (I6 next)], 2, .fresh⟩, ⟨[.sl (flsc A2) (List.length A2) .any, (I6 n2)], 2, .fresh⟩, ⟨[.sl (flsc A2) (List.length A2) .any, (I6 n2)], 2, .fresh⟩]⟩ ?_))
        refine AWP.reg (PI 2 (2 ≤ 2 ∧ 2 ≤ 2 ∧ True) ⟨(by omega), (by omega), trivial⟩ ?_)
        refine CD (same_refl A2 n2 hA2 hB2) ?_
        refine PT 7 7 ?_
        refine DerQ.to ⟨[U6, (I6 x), U6, (I6 a), .sc (.int .u8 (b)), U6, .ptr 0 0] ++ UU 5 ++ [(B6 false), .ptr 1 0, (I6 x2), (I6 e2), .ptr 2 0, (I6 x2), (I6 e2)] ++ UU 59 ++ [.agg [.sl (flsc A2) (List.length A2) .any, (I6 n2)], .agg [.sl (flsc A2) (List.length A2) .any, (I6 n2)], (B6 true), (B6 false), (B6 false), (I6 x2), (I6 x2), (B6 (x2 != x2)), (B6 (x2 != x2)), (B6 (x2 != x2))] ++ UU 66, [⟨[.sl (flsc l) (List.length l) .any, (I6 next)], 2, .fresh⟩, ⟨[.sl (flsc A2) (List.length A2) .any, (I6 n2)], 2, .fresh⟩, ⟨[.sl (flsc A2) (List.length A2) .any, (I6 n2)], 2, .fresh⟩]⟩ (by kernel_rfl) ?_
        cases h4 : (x2 != x2)
        · have h4' := bne_eq_false_iff_eq.1 h4
          refine RT 4 ?_
          refine KL ([14, 17] ++ NN 78 13) ⟨[U6, (I6 x), U6, (I6 a), .sc (.int .u8 (b)), U6, .ptr 0 0] ++ UU 5 ++ [(B6 false), .ptr 1 0, U6, (I6 e2), .ptr 2 0, U6, (I6 e2)] ++ UU 72 ++ [(B6 (e2 != e2))] ++ UU 62, [⟨[.sl (flsc l) (List.length l) .any, (I6 next)], 2, .fresh⟩, ⟨[.sl (flsc A2) (List.length A2) .any, (I6 n2)], 2, .fresh⟩, ⟨[.sl (flsc A2) (List.length A2) .any, (I6 n2)], 2, .fresh⟩]⟩ ?_
          refine CN (e2 != e2) (fun h5 => ?_) (fun h5 => ?_)
          · have h5' := bne_iff_ne.1 h5
            exfalso; omega
          · have h5' := bne_eq_false_iff_eq.1 h5
            refine AWP.skip (SQ (PI 4 (2 ≤ 2 ∧ True ∧ True ∧ True ∧ True) ⟨(by omega), trivial, trivial, trivial, trivial⟩ ?_))
            refine CD (p1) ?_
            refine RI (True ∧ True ∧ True ∧ 2 ≤ 2 ∧ True ∧ True) ⟨trivial, trivial, trivial, (by omega), trivial, trivial⟩ ?_
            refine AWP.seq (KL (NN 91 9) ⟨[U6, (I6 x), U6, (I6 a), .sc (.int .u8 (b)), U6, .ptr 0 0] ++ UU 5 ++ [(B6 false), .ptr 1 0, U6, (I6 e3), .ptr 2 0, U6, (I6 e2)] ++ UU 135, [⟨[.sl (flsc l) (List.length l) .any, (I6 next)], 2, .fresh⟩, ⟨[.sl (flsc A3) (List.length A3) .any, (I6 n3)], 2, .fresh⟩, ⟨[.sl (flsc A2) (List.length A2) .any, (I6 n2)], 2, .fresh⟩]⟩ ?_)
            refine AWP.reg (PI 4 (2 ≤ 2 ∧ True ∧ True ∧ True ∧ True) ⟨(by omega), trivial, trivial, trivial, trivial⟩ ?_)
            refine CD (p2) ?_
            refine RI (True ∧ True ∧ True ∧ 2 ≤ 2 ∧ True ∧ True) ⟨trivial, trivial, trivial, (by omega), trivial, trivial⟩ ?_
            refine AWP.seq (AWP.seq (KL ([3, 4] ++ NN 100 8) ⟨[U6, (I6 x), U6, U6, U6, U6, .ptr 0 0] ++ UU 5 ++ [(B6 false), .ptr 1 0, U6, (I6 e3), .ptr 2 0, U6, (I6 e3)] ++ UU 135, [⟨[.sl (flsc l) (List.length l) .any, (I6 next)], 2, .fresh⟩, ⟨[.sl (flsc A3) (List.length A3) .any, (I6 n3)], 2, .fresh⟩, ⟨[.sl (flsc A3) (List.length A3) .any, (I6 n3)], 2, .fresh⟩]⟩ ?_))
            refine AWP.reg (PI 2 (2 ≤ 2 ∧ 2 ≤ 2 ∧ True) ⟨(by omega), (by omega), trivial⟩ ?_)
            refine CD (same_refl A3 n3 hA3 hB3) ?_
            refine RT 6 ?_
            refine KL ([13, 15, 16, 18] ++ NN 108 8) ⟨[U6, (I6 x), U6, U6, U6, U6, .ptr 0 0] ++ UU 5 ++ [(B6 false)] ++ UU 103 ++ [(B6 (e3 != e3))] ++ UU 37, [⟨[.sl (flsc l) (List.length l) .any, (I6 next)], 2, .fresh⟩, ⟨[.sl (flsc A3) (List.length A3) .any, (I6 n3)], 2, .fresh⟩, ⟨[.sl (flsc A3) (List.length A3) .any, (I6 n3)], 2, .fresh⟩]⟩ ?_
            refine CN (e3 != e3) (fun h6 => ?_) (fun h6 => ?_)
            · have h6' := bne_iff_ne.1 h6
              exfalso; omega
            · have h6' := bne_eq_false_iff_eq.1 h6
              refine AWP.skip (SQ (PI 2 (2 ≤ 2 ∧ True ∧ True) ⟨(by omega), trivial, trivial⟩ ?_))
              refine CD (t1) ?_
              refine RI (True ∧ True ∧ True ∧ True ∧ True ∧ True ∧ 2 ≤ 2 ∧ 4 ≤ 4 ∧ True ∧ True) ⟨trivial, trivial, trivial, trivial, trivial, trivial, (by omega), (by omega), trivial, trivial⟩ ?_
              refine AWP.seq (KL (NN 116 8) ⟨[U6, (I6 x), U6, U6, U6, U6, .ptr 0 0] ++ UU 5 ++ [(B6 false)] ++ UU 6 ++ [.ptr 3 0, .ptr 4 0, (I6 e4)] ++ UU 132, [⟨[.sl (flsc l) (List.length l) .any, (I6 next)], 2, .fresh⟩, ⟨[.sl (flsc A3) (List.length A3) .any, (I6 n3)], 2, .fresh⟩, ⟨[.sl (flsc A3) (List.length A3) .any, (I6 n3)], 2, .fresh⟩, ⟨[.sl (flsc A4) (List.length A4) .any, (I6 n4)], 2, .fresh⟩, ⟨[(I6 (f4.num)), (I6 (f4.to)), .sl (u8s f4.d) (List.length f4.d) .any, (B6 f4.sp)], 4, .fresh⟩]⟩ ?_)
              refine AWP.reg (PI 2 (2 ≤ 2 ∧ True ∧ True) ⟨(by omega), trivial, trivial⟩ ?_)
              refine CD (t2) ?_
              refine RI (True ∧ True ∧ True ∧ True ∧ True ∧ True ∧ 2 ≤ 2 ∧ 4 ≤ 4 ∧ True ∧ True) ⟨trivial, trivial, trivial, trivial, trivial, trivial, (by omega), (by omega), trivial, trivial⟩ ?_
              refine AWP.seq (KL ([1] ++ NN 124 7) ⟨[.undef] ++ UU 5 ++ [.ptr 0 0] ++ UU 5 ++ [(B6 false)] ++ UU 6 ++ [.ptr 3 0, .ptr 4 0, (I6 e4), .ptr 5 0, .ptr 6 0, (I6 e4)] ++ UU 129, [⟨[.sl (flsc l) (List.length l) .any, (I6 next)], 2, .fresh⟩, ⟨[.sl (flsc A3) (List.length A3) .any, (I6 n3)], 2, .fresh⟩, ⟨[.sl (flsc A3) (List.length A3) .any, (I6 n3)], 2, .fresh⟩, ⟨[.sl (flsc A4) (List.length A4) .any, (I6 n4)], 2, .fresh⟩, ⟨[(I6 (f4.num)), (I6 (f4.to)), .sl (u8s f4.d) (List.length f4.d) .any, (B6 f4.sp)], 4, .fresh⟩, ⟨[.sl (flsc A4) (List.length A4) .any, (I6 n4)], 2, .fresh⟩, ⟨[(I6 (f4.num)), (I6 (f4.to)), .sl (u8s f4.d) (List.length f4.d) .any, (B6 f4.sp)], 4, .fresh⟩]⟩ ?_)
              refine AWP.drawX mixed (fun o => [133, 137, 146, 148, 152].contains (o.dst.getD 0)) (by kernel_rfl) ?_
              refine DerX.preI 2 (((2 : Nat) ≤ (2 : Nat)) ∧ (((2 : Nat) ≤ (2 : Nat)) ∧ (True))) (by intro ext; kernel_rfl) ⟨(by omega), ⟨(by omega), trivial⟩⟩ ?_
              refine DerX.callDI (same_refl A4 n4 hA4 hB4) ⟨by kernel_rfl, by kernel_rfl⟩ ?_
              refine DerX.preI 3 ((True) ∧ (((4 : Nat) ≤ (4 : Nat)) ∧ (((4 : Nat) ≤ (4 : Nat)) ∧ (True)))) (by intro ext; kernel_rfl) ⟨trivial, ⟨(by omega), ⟨(by omega), trivial⟩⟩⟩ ?_
              refine DerX.callDI (one_refl f4 hF4) ⟨by kernel_rfl, by kernel_rfl⟩ ?_
              refine DerX.preI 7 ((True) ∧ ((True) ∧ ((True) ∧ ((True) ∧ ((True) ∧ ((True) ∧ ((True) ∧ (True)))))))) (by intro ext; kernel_rfl) ⟨trivial, ⟨trivial, ⟨trivial, ⟨trivial, ⟨trivial, ⟨trivial, ⟨trivial, trivial⟩⟩⟩⟩⟩⟩⟩ ?_
              refine AWP.toX ⟨[.undef] ++ UU 5 ++ [.ptr 0 0] ++ UU 5 ++ [(B6 false)] ++ UU 6 ++ [.ptr 3 0, .ptr 4 0, (I6 e4), .ptr 5 0, .ptr 6 0, (I6 e4)] ++ UU 106 ++ [.agg [.sl (flsc A4) (List.length A4) .any, (I6 n4)], .agg [.sl (flsc A4) (List.length A4) .any, (I6 n4)], (B6 true), (B6 true), .agg [(I6 (f4.num)), (I6 (f4.to)), .sl (u8s f4.d) (List.length f4.d) .any, (B6 f4.sp)], .agg [(I6 (f4.num)), (I6 (f4.to)), .sl (u8s f4.d) (List.length f4.d) .any, (B6 f4.sp)], (B6 true), (B6 true), (B6 true), (I6 e4), (I6 e4), (B6 (e4 == e4)), (B6 (e4 == e4)), (B6 (e4 == e4))] ++ UU 9, [⟨[.sl (flsc l) (List.length l) .any, (I6 next)], 2, .fresh⟩, ⟨[.sl (flsc A3) (List.length A3) .any, (I6 n3)], 2, .fresh⟩, ⟨[.sl (flsc A3) (List.length A3) .any, (I6 n3)], 2, .fresh⟩, ⟨[.sl (flsc A4) (List.length A4) .any, (I6 n4)], 2, .fresh⟩, ⟨[(I6 (f4.num)), (I6 (f4.to)), .sl (u8s f4.d) (List.length f4.d) .any, (B6 f4.sp)], 4, .fresh⟩, ⟨[.sl (flsc A4) (List.length A4) .any, (I6 n4)], 2, .fresh⟩, ⟨[(I6 (f4.num)), (I6 (f4.to)), .sl (u8s f4.d) (List.length f4.d) .any, (B6 f4.sp)], 4, .fresh⟩]⟩ (by kernel_rfl) ?_
              cases h7 : (e4 == e4)
              · have h7' := ne_of_beq_false h7
                exfalso; omega
              · have h7' := eq_of_beq h7
                refine DerX.quietI ((2 : Nat) ≤ (2 : Nat)) (by intro ext; kernel_rfl) (by kernel_rfl) (by omega) ?_
                refine DerX.callDI (check l next hx) ⟨by kernel_rfl, by kernel_rfl⟩ ?_
                refine DerX.quietI ((2 : Nat) ≤ (2 : Nat)) (by intro ext; kernel_rfl) (by kernel_rfl) (by omega) ?_
                refine DerX.callDI (r_check l next hx) ⟨by kernel_rfl, by kernel_rfl⟩ ?_
                refine DerX.preI 3 ((True) ∧ ((True) ∧ ((True) ∧ (True)))) (by intro ext; kernel_rfl) ⟨trivial, ⟨trivial, ⟨trivial, trivial⟩⟩⟩ ?_
                refine AWP.toX ⟨[.undef] ++ UU 5 ++ [.ptr 0 0] ++ UU 5 ++ [(B6 false)] ++ UU 6 ++ [.ptr 3 0, .ptr 4 0, (I6 e4), .ptr 5 0, .ptr 6 0, (I6 e4)] ++ UU 106 ++ [.agg [.sl (flsc A4) (List.length A4) .any, (I6 n4)], .agg [.sl (flsc A4) (List.length A4) .any, (I6 n4)], (B6 true), (B6 true), .agg [(I6 (f4.num)), (I6 (f4.to)), .sl (u8s f4.d) (List.length f4.d) .any, (B6 f4.sp)], .agg [(I6 (f4.num)), (I6 (f4.to)), .sl (u8s f4.d) (List.length f4.d) .any, (B6 f4.sp)], (B6 true), (B6 true), (B6 true), (I6 e4), (I6 e4), (B6 true), (B6 true), (B6 true), .agg [.sl (flsc l) (List.length l) .any, (I6 next)], (B6 (decide (okN next l))), .agg [.sl (flsc l) (List.length l) .any, (I6 next)], (B6 (decide (okN next l))), (B6 (decide (okN next l) == decide (okN next l))), (B6 (decide (okN next l) == decide (okN next l))), (B6 (decide (okN next l) == decide (okN next l))), U6, .undef], [⟨[.sl (flsc l) (List.length l) .any, (I6 next)], 2, .fresh⟩, ⟨[.sl (flsc A3) (List.length A3) .any, (I6 n3)], 2, .fresh⟩, ⟨[.sl (flsc A3) (List.length A3) .any, (I6 n3)], 2, .fresh⟩, ⟨[.sl (flsc A4) (List.length A4) .any, (I6 n4)], 2, .fresh⟩, ⟨[(I6 (f4.num)), (I6 (f4.to)), .sl (u8s f4.d) (List.length f4.d) .any, (B6 f4.sp)], 4, .fresh⟩, ⟨[.sl (flsc A4) (List.length A4) .any, (I6 n4)], 2, .fresh⟩, ⟨[(I6 (f4.num)), (I6 (f4.to)), .sl (u8s f4.d) (List.length f4.d) .any, (B6 f4.sp)], 4, .fresh⟩]⟩ (by kernel_rfl) ?_
                cases h8 : (decide (okN next l) == decide (okN next l))
                · have h8' := ne_of_beq_false h8
                  (exfalso; (exfalso; simp_all; done); done)
                · have h8' := eq_of_beq h8
                  refine DerX.callDI (heads) ⟨by kernel_rfl, by kernel_rfl⟩ ?_
                  refine DerX.preI 2 ((True) ∧ ((True) ∧ (True))) (by intro ext; kernel_rfl) ⟨trivial, ⟨trivial, trivial⟩⟩ ?_
                  refine DerX.nil ?_
                  refine AWP.ret FA
        · have h4' := bne_iff_ne.1 h4
          exfalso; omega
    · have h2' := bne_iff_ne.1 h2
      exfalso; omega
theorem tells (l : List FlD) (next x to a b : Int) (d : List Int) (hx : l.length ≤ 1000000000000000) (hn : -9223372036854775808 ≤ next ∧ next ≤ 9223372036854775807) (ha64 : -9223372036854775808 ≤ a ∧ a ≤ 9223372036854775807) (hb8 : 0 ≤ b ∧ b < 256) (hb : BtsL l) (hd : Bts d) : EvD Try.prog 8 [.agg [.sl (flsc l) l.length .any, .sc (.int .i64 next)], .sc (.int .i64 x), .sc (.int .i64 to), .sc (.int .i64 a), .sc (.int .u8 b), .sl (u8s d) d.length .any] (.sc (.bool true)) := by
  by_cases hf : fewP l
  · by_cases hk : d.length ≤ 2000
    · exact tells_c l next x to a b d hx hn ha64 hb8 hb hd hf hk
    · exact tells_b l next x to a b d hx hn ha64 hb8 hb hd hf hk
  · exact tells_a l next x to a b d hx hn ha64 hb8 hb hd hf
end Go.Net
