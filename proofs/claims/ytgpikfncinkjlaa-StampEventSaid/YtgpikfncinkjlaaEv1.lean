/- Walks and laws. -/
import Derived.Test.YtgpikfncinkjlaaEv0
import Derived.Test.YtgpikfncinkjlaaLibB
set_option maxRecDepth 100000
set_option maxHeartbeats 0
set_option linter.unusedSimpArgs false
set_option linter.unusedVariables false
namespace Go.Tr
open Go Go.Abs Go.Proofs
theorem e_rough1 (n d l m : Int) (k : List T) (c : List AVal) (cn : Nat) (b : Bool) (hd : 0 ≤ d ∧ d ≤ 1000) (hl : -2000000000 ≤ l - m ∧ l - m ≤ 2000000000) (h : EvD Try.prog 65 [.agg [.sc (.int .i64 n), .sl (tcs k) k.length .any], .sc (.int .i64 (d - 1)), .sc (.int .i64 (l - m))] (.sc (.bool b))) :
    EvD Try.prog 106 [.agg [.sc (.int .i64 n), .sl (tcs k) k.length .any], .dptr [.sc (.int .i64 d)], .dptr [.sc (.int .i64 l)], .dptr [.sc (.int .i64 m), .sl c cn .any]] (.sc (.bool (!b))) := by
  refine EvD.body Try.func106 rfl rfl rfl ?_
  refine AWP.seq ?_
  refine TO ⟨[.agg [(I6 n), tl k], .dptr [(I6 d)], .dptr [(I6 l)], .dptr [(I6 m), .sl c (cn) .any]] ++ UU 11, []⟩ ?_
  refine AWP.reg (RT 2 ?_)
  refine AWP.seq (KL [0] ⟨[U6, .dptr [(I6 d)], .dptr [(I6 l)], .dptr [(I6 m), .sl c (cn) .any], .ptr 0 0, (B6 false)] ++ UU 9, [⟨[(I6 n), tl k], 2, .fresh⟩]⟩ ?_)
  refine AWP.reg ?_
  refine DerQ.pre 7 (2 ≤ 2 ∧ 0 < 1 ∧ True ∧ 0 < 1 ∧ 1 ≤ 2 ∧ 0 < 1 ∧ True ∧ True) ⟨[U6, .dptr [(I6 d)], .dptr [(I6 l)], .dptr [(I6 m), .sl c (cn) .any], .ptr 0 0, (B6 false), .agg [(I6 n), tl k], (I6 d), (I6 (IntKind.wrap IntKind.i64 (d - 1))), (I6 l), .dptr [(I6 m)], (I6 m), (I6 (IntKind.wrap IntKind.i64 (l - m))), U6, .undef], [⟨[(I6 n), tl k], 2, .fresh⟩]⟩ (by kernel_rfl) ⟨(by omega), (by omega), trivial, (by omega), (by omega), (by omega), trivial, trivial⟩ ?_
  rw [IntWalk.i64_in (d - 1) (by omega)]
  rw [IntWalk.i64_in (l - m) (by omega)]
  refine CD (h) ?_
  refine RT 2 ?_
  refine AWP.ret FA
theorem e_index0 (d l m : Int) (c : List AVal) (cn : Nat) : EvD Try.prog 121 [.sl [] 0 .any, .fn 106 [.dptr [.sc (.int .i64 d)], .dptr [.sc (.int .i64 l)], .dptr [.sc (.int .i64 m), .sl c cn .any]]] (.sc (.int .i64 (-1))) := by
  refine EvD.body Try.func121 rfl rfl rfl ?_
  refine AWP.seq ?_
  refine TO ⟨[.sl [] 0 .any, .fn 106 [.dptr [(I6 d)], .dptr [(I6 l)], .dptr [(I6 m), .sl c (cn) .any]]] ++ UU 17, []⟩ ?_
  refine AWP.reg (RT 1 ?_)
  refine AWP.seq (AWP.seq ?_)
  refine TO ⟨[.sl [] 0 .any, .fn 106 [.dptr [(I6 d)], .dptr [(I6 l)], .dptr [(I6 m), .sl c (cn) .any]], U6, U6, (I6 0)] ++ UU 14, []⟩ ?_
  refine AWP.reg (RT 3 ?_)
  refine AWP.block (KL [6] ⟨[.sl [] 0 .any, .fn 106 [.dptr [(I6 d)], .dptr [(I6 l)], .dptr [(I6 m), .sl c (cn) .any]], U6, U6, (I6 0), U6, U6, (I6 0), (I6 0)] ++ UU 10, []⟩ ?_)
  refine AWP.loopN 3 ?_
  refine AWP.turn ?_
  refine SQ (RT 1 ?_)
  refine AWP.seq ?_
  refine TO ⟨[.sl [] 0 .any, .fn 106 [.dptr [(I6 d)], .dptr [(I6 l)], .dptr [(I6 m), .sl c (cn) .any]], U6, U6, (I6 0), U6, U6, (I6 0), (I6 0), (B6 false)] ++ UU 9, []⟩ ?_
  refine CN false (fun h => nomatch h) (fun _ => ?_)
  refine AWP.exit ?_
  refine AWP.seq (KL [0, 1, 7, 8, 9] ⟨[U6, U6, U6, U6, (I6 0)] ++ UU 14, []⟩ ?_)
  refine AWP.reg (RT 1 ?_)
  refine AWP.ret FA
theorem e_index (n1 n2 d l m : Int) (k1 k2 : List T) (c : List AVal) (cn : Nat) (b1 b2 : Bool)
    (h1 : EvD Try.prog 106 [.agg [.sc (.int .i64 n1), .sl (tcs k1) k1.length .any], .dptr [.sc (.int .i64 d)], .dptr [.sc (.int .i64 l)], .dptr [.sc (.int .i64 m), .sl c cn .any]] (.sc (.bool b1)))
    (h2 : b1 = false → EvD Try.prog 106 [.agg [.sc (.int .i64 n2), .sl (tcs k2) k2.length .any], .dptr [.sc (.int .i64 d)], .dptr [.sc (.int .i64 l)], .dptr [.sc (.int .i64 m), .sl c cn .any]] (.sc (.bool b2))) :
    EvD Try.prog 121 [.sl [.sc (.int .i64 n1), .sl (tcs k1) k1.length .any, .sc (.int .i64 n2), .sl (tcs k2) k2.length .any] 2 .any, .fn 106 [.dptr [.sc (.int .i64 d)], .dptr [.sc (.int .i64 l)], .dptr [.sc (.int .i64 m), .sl c cn .any]]] (.sc (.int .i64 (if b1 then 0 else if b2 then 1 else -1))) := by
  cases b1
  · have h2' := h2 rfl
    cases b2
    · refine EvD.body Try.func121 rfl rfl rfl ?_
      refine AWP.seq ?_
      refine TO ⟨[.sl [(I6 n1), tl k1, (I6 n2), tl k2] 2 .any, .fn 106 [.dptr [(I6 d)], .dptr [(I6 l)], .dptr [(I6 m), .sl c (cn) .any]]] ++ UU 17, []⟩ ?_
      refine AWP.reg (RT 1 ?_)
      refine AWP.seq (AWP.seq ?_)
      refine TO ⟨[.sl [(I6 n1), tl k1, (I6 n2), tl k2] 2 .any, .fn 106 [.dptr [(I6 d)], .dptr [(I6 l)], .dptr [(I6 m), .sl c (cn) .any]], U6, U6, (I6 0)] ++ UU 14, []⟩ ?_
      refine AWP.reg (RT 3 ?_)
      refine AWP.block (KL [6] ⟨[.sl [(I6 n1), tl k1, (I6 n2), tl k2] 2 .any, .fn 106 [.dptr [(I6 d)], .dptr [(I6 l)], .dptr [(I6 m), .sl c (cn) .any]], U6, U6, (I6 0), U6, U6, (I6 2), (I6 0)] ++ UU 10, []⟩ ?_)
      refine AWP.loopN 3 ?_
      refine AWP.turn ?_
      refine SQ (RT 1 ?_)
      refine AWP.seq ?_
      refine TO ⟨[.sl [(I6 n1), tl k1, (I6 n2), tl k2] 2 .any, .fn 106 [.dptr [(I6 d)], .dptr [(I6 l)], .dptr [(I6 m), .sl c (cn) .any]], U6, U6, (I6 0), U6, U6, (I6 2), (I6 0), (B6 true)] ++ UU 9, []⟩ ?_
      refine CN true (fun _ => ?_) (fun h => nomatch h)
      refine AWP.skip (AWP.seq (AWP.block (SQ (RT 2 ?_))))
      refine AWP.seq ?_
      refine TO ⟨[.sl [(I6 n1), tl k1, (I6 n2), tl k2] 2 .any, .fn 106 [.dptr [(I6 d)], .dptr [(I6 l)], .dptr [(I6 m), .sl c (cn) .any]], U6, U6, (I6 0), (I6 0), U6, (I6 2), (I6 0), (B6 true), (I6 0)] ++ UU 8, []⟩ ?_
      refine AWP.reg (PI 5 (True ∧ True ∧ True ∧ ((((0 : Int) ≤ (0 : Int)) ∧ ((0 : Int) < (2 : Int))) ∧ ((2 : Nat) ≤ (4 : Nat))) ∧ 2 ≤ 2 ∧ True) ⟨trivial, trivial, trivial, ⟨⟨(by omega), (by omega)⟩, (by omega)⟩, (by omega), trivial⟩ ?_)
      refine CD (h1) ?_
      refine DerQ.nil ?_
      refine TO ⟨[.sl [(I6 n1), tl k1, (I6 n2), tl k2] 2 .any, .fn 106 [.dptr [(I6 d)], .dptr [(I6 l)], .dptr [(I6 m), .sl c (cn) .any]], U6, U6, (I6 0), (I6 0), U6, (I6 2), (I6 0), (B6 true), (I6 0), .fn 106 [.dptr [(I6 d)], .dptr [(I6 l)], .dptr [(I6 m), .sl c (cn) .any]], .sl [(I6 n1), tl k1, (I6 n2), tl k2] 2 .any, (I6 0), .dptr [(I6 n1), tl k1], .agg [(I6 n1), tl k1], (B6 false), U6, .undef], []⟩ ?_
      refine CN false (fun h => nomatch h) (fun _ => ?_)
      refine AWP.skip (AWP.reg (RT 2 ?_))
      refine AWP.turn ?_
      refine AWP.seq ?_
      refine TO ⟨[.sl [(I6 n1), tl k1, (I6 n2), tl k2] 2 .any, .fn 106 [.dptr [(I6 d)], .dptr [(I6 l)], .dptr [(I6 m), .sl c (cn) .any]], U6, U6, (I6 0), (I6 0), U6, (I6 2), (I6 1), (B6 true), (I6 0), .fn 106 [.dptr [(I6 d)], .dptr [(I6 l)], .dptr [(I6 m), .sl c (cn) .any]], .sl [(I6 n1), tl k1, (I6 n2), tl k2] 2 .any, (I6 0), .dptr [(I6 n1), tl k1], .agg [(I6 n1), tl k1], (B6 false), U6, (I6 1)], []⟩ ?_
      refine AWP.reg (RT 1 ?_)
      refine AWP.seq ?_
      refine TO ⟨[.sl [(I6 n1), tl k1, (I6 n2), tl k2] 2 .any, .fn 106 [.dptr [(I6 d)], .dptr [(I6 l)], .dptr [(I6 m), .sl c (cn) .any]], U6, U6, (I6 0), (I6 0), U6, (I6 2), (I6 1), (B6 true), (I6 0), .fn 106 [.dptr [(I6 d)], .dptr [(I6 l)], .dptr [(I6 m), .sl c (cn) .any]], .sl [(I6 n1), tl k1, (I6 n2), tl k2] 2 .any, (I6 0), .dptr [(I6 n1), tl k1], .agg [(I6 n1), tl k1], (B6 false), U6, (I6 1)], []⟩ ?_
      refine CN true (fun _ => ?_) (fun h => nomatch h)
      refine AWP.skip (AWP.seq (AWP.block (SQ (RT 2 ?_))))
      refine AWP.seq ?_
      refine TO ⟨[.sl [(I6 n1), tl k1, (I6 n2), tl k2] 2 .any, .fn 106 [.dptr [(I6 d)], .dptr [(I6 l)], .dptr [(I6 m), .sl c (cn) .any]], U6, U6, (I6 0), (I6 1), U6, (I6 2), (I6 1), (B6 true), (I6 1), .fn 106 [.dptr [(I6 d)], .dptr [(I6 l)], .dptr [(I6 m), .sl c (cn) .any]], .sl [(I6 n1), tl k1, (I6 n2), tl k2] 2 .any, (I6 0), .dptr [(I6 n1), tl k1], .agg [(I6 n1), tl k1], (B6 false), U6, (I6 1)], []⟩ ?_
      refine AWP.reg (PI 5 (True ∧ True ∧ True ∧ ((((0 : Int) ≤ (1 : Int)) ∧ ((1 : Int) < (2 : Int))) ∧ ((4 : Nat) ≤ (4 : Nat))) ∧ 2 ≤ 2 ∧ True) ⟨trivial, trivial, trivial, ⟨⟨(by omega), (by omega)⟩, (by omega)⟩, (by omega), trivial⟩ ?_)
      refine CD (h2') ?_
      refine DerQ.nil ?_
      refine TO ⟨[.sl [(I6 n1), tl k1, (I6 n2), tl k2] 2 .any, .fn 106 [.dptr [(I6 d)], .dptr [(I6 l)], .dptr [(I6 m), .sl c (cn) .any]], U6, U6, (I6 0), (I6 1), U6, (I6 2), (I6 1), (B6 true), (I6 1), .fn 106 [.dptr [(I6 d)], .dptr [(I6 l)], .dptr [(I6 m), .sl c (cn) .any]], .sl [(I6 n1), tl k1, (I6 n2), tl k2] 2 .any, (I6 1), .dptr [(I6 n2), tl k2], .agg [(I6 n2), tl k2], (B6 false), U6, (I6 1)], []⟩ ?_
      refine CN false (fun h => nomatch h) (fun _ => ?_)
      refine AWP.skip (AWP.reg (RT 2 ?_))
      refine AWP.turn ?_
      refine AWP.seq ?_
      refine TO ⟨[.sl [(I6 n1), tl k1, (I6 n2), tl k2] 2 .any, .fn 106 [.dptr [(I6 d)], .dptr [(I6 l)], .dptr [(I6 m), .sl c (cn) .any]], U6, U6, (I6 0), (I6 1), U6, (I6 2), (I6 2), (B6 true), (I6 1), .fn 106 [.dptr [(I6 d)], .dptr [(I6 l)], .dptr [(I6 m), .sl c (cn) .any]], .sl [(I6 n1), tl k1, (I6 n2), tl k2] 2 .any, (I6 1), .dptr [(I6 n2), tl k2], .agg [(I6 n2), tl k2], (B6 false), U6, (I6 2)], []⟩ ?_
      refine AWP.reg (RT 1 ?_)
      refine AWP.seq ?_
      refine TO ⟨[.sl [(I6 n1), tl k1, (I6 n2), tl k2] 2 .any, .fn 106 [.dptr [(I6 d)], .dptr [(I6 l)], .dptr [(I6 m), .sl c (cn) .any]], U6, U6, (I6 0), (I6 1), U6, (I6 2), (I6 2), (B6 false), (I6 1), .fn 106 [.dptr [(I6 d)], .dptr [(I6 l)], .dptr [(I6 m), .sl c (cn) .any]], .sl [(I6 n1), tl k1, (I6 n2), tl k2] 2 .any, (I6 1), .dptr [(I6 n2), tl k2], .agg [(I6 n2), tl k2], (B6 false), U6, (I6 2)], []⟩ ?_
      refine CN false (fun h => nomatch h) (fun _ => ?_)
      refine AWP.exit ?_
      refine AWP.seq (KL ([0, 1, 5] ++ NN 7 10 ++ [18]) ⟨[U6, U6, U6, U6, (I6 0)] ++ UU 14, []⟩ ?_)
      refine AWP.reg (RT 1 ?_)
      refine AWP.ret FA
    · refine EvD.body Try.func121 rfl rfl rfl ?_
      refine AWP.seq ?_
      refine TO ⟨[.sl [(I6 n1), tl k1, (I6 n2), tl k2] 2 .any, .fn 106 [.dptr [(I6 d)], .dptr [(I6 l)], .dptr [(I6 m), .sl c (cn) .any]]] ++ UU 17, []⟩ ?_
      refine AWP.reg (RT 1 ?_)
      refine AWP.seq (AWP.seq ?_)
      refine TO ⟨[.sl [(I6 n1), tl k1, (I6 n2), tl k2] 2 .any, .fn 106 [.dptr [(I6 d)], .dptr [(I6 l)], .dptr [(I6 m), .sl c (cn) .any]], U6, U6, (I6 0)] ++ UU 14, []⟩ ?_
      refine AWP.reg (RT 3 ?_)
      refine AWP.block (KL [6] ⟨[.sl [(I6 n1), tl k1, (I6 n2), tl k2] 2 .any, .fn 106 [.dptr [(I6 d)], .dptr [(I6 l)], .dptr [(I6 m), .sl c (cn) .any]], U6, U6, (I6 0), U6, U6, (I6 2), (I6 0)] ++ UU 10, []⟩ ?_)
      refine AWP.loopN 3 ?_
      refine AWP.turn ?_
      refine SQ (RT 1 ?_)
      refine AWP.seq ?_
      refine TO ⟨[.sl [(I6 n1), tl k1, (I6 n2), tl k2] 2 .any, .fn 106 [.dptr [(I6 d)], .dptr [(I6 l)], .dptr [(I6 m), .sl c (cn) .any]], U6, U6, (I6 0), U6, U6, (I6 2), (I6 0), (B6 true)] ++ UU 9, []⟩ ?_
      refine CN true (fun _ => ?_) (fun h => nomatch h)
      refine AWP.skip (AWP.seq (AWP.block (SQ (RT 2 ?_))))
      refine AWP.seq ?_
      refine TO ⟨[.sl [(I6 n1), tl k1, (I6 n2), tl k2] 2 .any, .fn 106 [.dptr [(I6 d)], .dptr [(I6 l)], .dptr [(I6 m), .sl c (cn) .any]], U6, U6, (I6 0), (I6 0), U6, (I6 2), (I6 0), (B6 true), (I6 0)] ++ UU 8, []⟩ ?_
      refine AWP.reg (PI 5 (True ∧ True ∧ True ∧ ((((0 : Int) ≤ (0 : Int)) ∧ ((0 : Int) < (2 : Int))) ∧ ((2 : Nat) ≤ (4 : Nat))) ∧ 2 ≤ 2 ∧ True) ⟨trivial, trivial, trivial, ⟨⟨(by omega), (by omega)⟩, (by omega)⟩, (by omega), trivial⟩ ?_)
      refine CD (h1) ?_
      refine DerQ.nil ?_
      refine TO ⟨[.sl [(I6 n1), tl k1, (I6 n2), tl k2] 2 .any, .fn 106 [.dptr [(I6 d)], .dptr [(I6 l)], .dptr [(I6 m), .sl c (cn) .any]], U6, U6, (I6 0), (I6 0), U6, (I6 2), (I6 0), (B6 true), (I6 0), .fn 106 [.dptr [(I6 d)], .dptr [(I6 l)], .dptr [(I6 m), .sl c (cn) .any]], .sl [(I6 n1), tl k1, (I6 n2), tl k2] 2 .any, (I6 0), .dptr [(I6 n1), tl k1], .agg [(I6 n1), tl k1], (B6 false), U6, .undef], []⟩ ?_
      refine CN false (fun h => nomatch h) (fun _ => ?_)
      refine AWP.skip (AWP.reg (RT 2 ?_))
      refine AWP.turn ?_
      refine AWP.seq ?_
      refine TO ⟨[.sl [(I6 n1), tl k1, (I6 n2), tl k2] 2 .any, .fn 106 [.dptr [(I6 d)], .dptr [(I6 l)], .dptr [(I6 m), .sl c (cn) .any]], U6, U6, (I6 0), (I6 0), U6, (I6 2), (I6 1), (B6 true), (I6 0), .fn 106 [.dptr [(I6 d)], .dptr [(I6 l)], .dptr [(I6 m), .sl c (cn) .any]], .sl [(I6 n1), tl k1, (I6 n2), tl k2] 2 .any, (I6 0), .dptr [(I6 n1), tl k1], .agg [(I6 n1), tl k1], (B6 false), U6, (I6 1)], []⟩ ?_
      refine AWP.reg (RT 1 ?_)
      refine AWP.seq ?_
      refine TO ⟨[.sl [(I6 n1), tl k1, (I6 n2), tl k2] 2 .any, .fn 106 [.dptr [(I6 d)], .dptr [(I6 l)], .dptr [(I6 m), .sl c (cn) .any]], U6, U6, (I6 0), (I6 0), U6, (I6 2), (I6 1), (B6 true), (I6 0), .fn 106 [.dptr [(I6 d)], .dptr [(I6 l)], .dptr [(I6 m), .sl c (cn) .any]], .sl [(I6 n1), tl k1, (I6 n2), tl k2] 2 .any, (I6 0), .dptr [(I6 n1), tl k1], .agg [(I6 n1), tl k1], (B6 false), U6, (I6 1)], []⟩ ?_
      refine CN true (fun _ => ?_) (fun h => nomatch h)
      refine AWP.skip (AWP.seq (AWP.block (SQ (RT 2 ?_))))
      refine AWP.seq ?_
      refine TO ⟨[.sl [(I6 n1), tl k1, (I6 n2), tl k2] 2 .any, .fn 106 [.dptr [(I6 d)], .dptr [(I6 l)], .dptr [(I6 m), .sl c (cn) .any]], U6, U6, (I6 0), (I6 1), U6, (I6 2), (I6 1), (B6 true), (I6 1), .fn 106 [.dptr [(I6 d)], .dptr [(I6 l)], .dptr [(I6 m), .sl c (cn) .any]], .sl [(I6 n1), tl k1, (I6 n2), tl k2] 2 .any, (I6 0), .dptr [(I6 n1), tl k1], .agg [(I6 n1), tl k1], (B6 false), U6, (I6 1)], []⟩ ?_
      refine AWP.reg (PI 5 (True ∧ True ∧ True ∧ ((((0 : Int) ≤ (1 : Int)) ∧ ((1 : Int) < (2 : Int))) ∧ ((4 : Nat) ≤ (4 : Nat))) ∧ 2 ≤ 2 ∧ True) ⟨trivial, trivial, trivial, ⟨⟨(by omega), (by omega)⟩, (by omega)⟩, (by omega), trivial⟩ ?_)
      refine CD (h2') ?_
      refine DerQ.nil ?_
      refine TO ⟨[.sl [(I6 n1), tl k1, (I6 n2), tl k2] 2 .any, .fn 106 [.dptr [(I6 d)], .dptr [(I6 l)], .dptr [(I6 m), .sl c (cn) .any]], U6, U6, (I6 0), (I6 1), U6, (I6 2), (I6 1), (B6 true), (I6 1), .fn 106 [.dptr [(I6 d)], .dptr [(I6 l)], .dptr [(I6 m), .sl c (cn) .any]], .sl [(I6 n1), tl k1, (I6 n2), tl k2] 2 .any, (I6 1), .dptr [(I6 n2), tl k2], .agg [(I6 n2), tl k2], (B6 true), U6, (I6 1)], []⟩ ?_
      refine CN true (fun _ => ?_) (fun h => nomatch h)
      refine SQ (RT 2 ?_)
      refine AWP.ret FA
  · refine EvD.body Try.func121 rfl rfl rfl ?_
    refine AWP.seq ?_
    refine TO ⟨[.sl [(I6 n1), tl k1, (I6 n2), tl k2] 2 .any, .fn 106 [.dptr [(I6 d)], .dptr [(I6 l)], .dptr [(I6 m), .sl c (cn) .any]]] ++ UU 17, []⟩ ?_
    refine AWP.reg (RT 1 ?_)
    refine AWP.seq (AWP.seq ?_)
    refine TO ⟨[.sl [(I6 n1), tl k1, (I6 n2), tl k2] 2 .any, .fn 106 [.dptr [(I6 d)], .dptr [(I6 l)], .dptr [(I6 m), .sl c (cn) .any]], U6, U6, (I6 0)] ++ UU 14, []⟩ ?_
    refine AWP.reg (RT 3 ?_)
    refine AWP.block (KL [6] ⟨[.sl [(I6 n1), tl k1, (I6 n2), tl k2] 2 .any, .fn 106 [.dptr [(I6 d)], .dptr [(I6 l)], .dptr [(I6 m), .sl c (cn) .any]], U6, U6, (I6 0), U6, U6, (I6 2), (I6 0)] ++ UU 10, []⟩ ?_)
    refine AWP.loopN 3 ?_
    refine AWP.turn ?_
    refine SQ (RT 1 ?_)
    refine AWP.seq ?_
    refine TO ⟨[.sl [(I6 n1), tl k1, (I6 n2), tl k2] 2 .any, .fn 106 [.dptr [(I6 d)], .dptr [(I6 l)], .dptr [(I6 m), .sl c (cn) .any]], U6, U6, (I6 0), U6, U6, (I6 2), (I6 0), (B6 true)] ++ UU 9, []⟩ ?_
    refine CN true (fun _ => ?_) (fun h => nomatch h)
    refine AWP.skip (AWP.seq (AWP.block (SQ (RT 2 ?_))))
    refine AWP.seq ?_
    refine TO ⟨[.sl [(I6 n1), tl k1, (I6 n2), tl k2] 2 .any, .fn 106 [.dptr [(I6 d)], .dptr [(I6 l)], .dptr [(I6 m), .sl c (cn) .any]], U6, U6, (I6 0), (I6 0), U6, (I6 2), (I6 0), (B6 true), (I6 0)] ++ UU 8, []⟩ ?_
    refine AWP.reg (PI 5 (True ∧ True ∧ True ∧ ((((0 : Int) ≤ (0 : Int)) ∧ ((0 : Int) < (2 : Int))) ∧ ((2 : Nat) ≤ (4 : Nat))) ∧ 2 ≤ 2 ∧ True) ⟨trivial, trivial, trivial, ⟨⟨(by omega), (by omega)⟩, (by omega)⟩, (by omega), trivial⟩ ?_)
    refine CD (h1) ?_
    refine DerQ.nil ?_
    refine TO ⟨[.sl [(I6 n1), tl k1, (I6 n2), tl k2] 2 .any, .fn 106 [.dptr [(I6 d)], .dptr [(I6 l)], .dptr [(I6 m), .sl c (cn) .any]], U6, U6, (I6 0), (I6 0), U6, (I6 2), (I6 0), (B6 true), (I6 0), .fn 106 [.dptr [(I6 d)], .dptr [(I6 l)], .dptr [(I6 m), .sl c (cn) .any]], .sl [(I6 n1), tl k1, (I6 n2), tl k2] 2 .any, (I6 0), .dptr [(I6 n1), tl k1], .agg [(I6 n1), tl k1], (B6 true), U6, .undef], []⟩ ?_
    refine CN true (fun _ => ?_) (fun h => nomatch h)
    refine SQ (RT 2 ?_)
    refine AWP.ret FA
theorem e_cont0 (d l m : Int) (c : List AVal) (cn : Nat) : EvD Try.prog 105 [.sl [] 0 .any, .fn 106 [.dptr [.sc (.int .i64 d)], .dptr [.sc (.int .i64 l)], .dptr [.sc (.int .i64 m), .sl c cn .any]]] (.sc (.bool false)) := by
  refine EvD.body Try.func105 rfl rfl rfl ?_
  refine AWP.seq ?_
  refine TO ⟨[.sl [] 0 .any, .fn 106 [.dptr [(I6 d)], .dptr [(I6 l)], .dptr [(I6 m), .sl c (cn) .any]]] ++ UU 7, []⟩ ?_
  refine AWP.reg (RT 1 ?_)
  refine AWP.seq ?_
  refine TO ⟨[.sl [] 0 .any, .fn 106 [.dptr [(I6 d)], .dptr [(I6 l)], .dptr [(I6 m), .sl c (cn) .any]], U6, U6, (B6 false), U6, U6, U6, .undef], []⟩ ?_
  refine AWP.reg (PT 2 2 ?_)
  refine CD (e_index0 d l m c cn) ?_
  refine RT 2 ?_
  refine AWP.ret FA
theorem e_cont (n1 n2 d l m : Int) (k1 k2 : List T) (c : List AVal) (cn : Nat) (b1 b2 : Bool)
    (h1 : EvD Try.prog 106 [.agg [.sc (.int .i64 n1), .sl (tcs k1) k1.length .any], .dptr [.sc (.int .i64 d)], .dptr [.sc (.int .i64 l)], .dptr [.sc (.int .i64 m), .sl c cn .any]] (.sc (.bool b1)))
    (h2 : b1 = false → EvD Try.prog 106 [.agg [.sc (.int .i64 n2), .sl (tcs k2) k2.length .any], .dptr [.sc (.int .i64 d)], .dptr [.sc (.int .i64 l)], .dptr [.sc (.int .i64 m), .sl c cn .any]] (.sc (.bool b2))) :
    EvD Try.prog 105 [.sl [.sc (.int .i64 n1), .sl (tcs k1) k1.length .any, .sc (.int .i64 n2), .sl (tcs k2) k2.length .any] 2 .any, .fn 106 [.dptr [.sc (.int .i64 d)], .dptr [.sc (.int .i64 l)], .dptr [.sc (.int .i64 m), .sl c cn .any]]] (.sc (.bool (b1 || b2))) := by
  have q := e_index n1 n2 d l m k1 k2 c cn b1 b2 h1 h2
  refine EvD.body Try.func105 rfl rfl rfl ?_
  refine AWP.seq ?_
  refine TO ⟨[.sl [(I6 n1), tl k1, (I6 n2), tl k2] 2 .any, .fn 106 [.dptr [(I6 d)], .dptr [(I6 l)], .dptr [(I6 m), .sl c (cn) .any]]] ++ UU 7, []⟩ ?_
  refine AWP.reg (RT 1 ?_)
  refine AWP.seq ?_
  refine TO ⟨[.sl [(I6 n1), tl k1, (I6 n2), tl k2] 2 .any, .fn 106 [.dptr [(I6 d)], .dptr [(I6 l)], .dptr [(I6 m), .sl c (cn) .any]], U6, U6, (B6 false), U6, U6, U6, .undef], []⟩ ?_
  refine AWP.reg (PT 2 2 ?_)
  refine CD (q) ?_
  refine RT 2 ?_
  refine AWP.ret ?_
  refine FI (.sc (.bool (decide ((if b1 = true then 0 else if b2 = true then 1 else -1) ≥ 0)))) ?_
  refine Shrink.all ?_ rfl
  (cases b1 <;> cases b2 <;> rfl; done)
theorem e_rough (N : Nat) : ∀ (n : Int) (ks : List T) (d l : Int), size (.mk n ks) ≤ N → 0 ≤ d → d ≤ 1000 → 0 ≤ l → l ≤ 2000000000 → EvD Try.prog 65 [.agg [.sc (.int .i64 n), .sl (tcs ks) ks.length .any], .sc (.int .i64 d), .sc (.int .i64 l)] (.sc (.bool (roughE d l (.mk n ks)))) := by
  induction N with
  | zero => intro n ks d l h; rw [size] at h; omega
  | succ N ih =>
    intro n ks d l hN h0 h1 h2 h3
    by_cases e0 : ks.length = 0
    · obtain rfl := List.eq_nil_of_length_eq_zero e0
      refine EvD.body Try.func65 rfl rfl rfl ?_
      refine AWP.seq ?_
      refine TO ⟨[.agg [(I6 n), .sl [] 0 .any], (I6 d), (I6 l)] ++ UU 40, []⟩ ?_
      refine AWP.reg (RT 4 ?_)
      refine AWP.seq (AWP.seq (KL [0, 1, 2] ⟨[U6, U6, U6, .ptr 0 0, .ptr 1 0, .ptr 2 0, (B6 false)] ++ UU 36, [⟨[(I6 n), .sl [] 0 .any], 2, .fresh⟩, ⟨[(I6 d)], 1, .fresh⟩, ⟨[(I6 l)], 1, .fresh⟩]⟩ ?_))
      refine AWP.reg (PI 4 (True ∧ 0 < 2 ∧ True ∧ True ∧ True) ⟨trivial, (by omega), trivial, trivial, trivial⟩ ?_)
      refine DerQ.to ⟨[U6, U6, U6, .ptr 0 0, .ptr 1 0, .ptr 2 0, (B6 false), .ptr 0 0, (I6 n), (B6 (decide (n < 0))), (B6 (decide (n < 0)))] ++ UU 32, [⟨[(I6 n), .sl [] 0 .any], 2, .fresh⟩, ⟨[(I6 d)], 1, .fresh⟩, ⟨[(I6 l)], 1, .fresh⟩]⟩ (by kernel_rfl) ?_
      cases h4 : (decide (n < 0))
      · have h4' := of_decide_eq_false h4
        refine PI 6 (True ∧ 0 < 2 ∧ 0 < 1 ∧ True ∧ True ∧ True ∧ True) ⟨trivial, (by omega), (by omega), trivial, trivial, trivial, trivial⟩ ?_
        refine DerQ.to ⟨[U6, U6, U6, .ptr 0 0, .ptr 1 0, .ptr 2 0, (B6 false), .ptr 0 0, (I6 n), (B6 false), (B6 false), .ptr 0 0, (I6 n), (I6 l), (B6 (decide (n > l))), (B6 (decide (n > l))), (B6 (decide (n > l)))] ++ UU 26, [⟨[(I6 n), .sl [] 0 .any], 2, .fresh⟩, ⟨[(I6 d)], 1, .fresh⟩, ⟨[(I6 l)], 1, .fresh⟩]⟩ (by kernel_rfl) ?_
        cases h5 : (decide (n > l))
        · have h5' := of_decide_eq_false h5
          refine RI (True ∧ 1 < 2 ∧ True ∧ True ∧ True ∧ True ∧ True ∧ True ∧ True ∧ 1 < 2 ∧ True ∧ True ∧ True ∧ True ∧ True ∧ True) ⟨trivial, (by omega), trivial, trivial, trivial, trivial, trivial, trivial, trivial, (by omega), trivial, trivial, trivial, trivial, trivial, trivial⟩ ?_
          refine KL (NN 7 30) ⟨[U6, U6, U6, .ptr 0 0, .ptr 1 0, .ptr 2 0, (B6 false)] ++ UU 30 ++ [(B6 false)] ++ UU 5, [⟨[(I6 n), .sl [] 0 .any], 2, .fresh⟩, ⟨[(I6 d)], 1, .fresh⟩, ⟨[(I6 l)], 1, .fresh⟩]⟩ ?_
          refine CN false (fun h => nomatch h) (fun _ => ?_)
          refine AWP.skip (SQ (PI 3 (True ∧ 1 < 2 ∧ True ∧ True) ⟨trivial, (by omega), trivial, trivial⟩ ?_))
          refine DerQ.callG (e_cont0 d l n [] ((0 : Nat))) [1, 2, 0] [.sl [] 0 .any, .fn 106 [.ptr 1 0, .ptr 2 0, .ptr 0 0]] [.sl [] 0 .any, .fn 106 [.dptr [(I6 d)], .dptr [(I6 l)], .dptr [(I6 n), .sl [] 0 .any]]] ((dataAll [(I6 d)] = true) ∧ ((dataAll [(I6 l)] = true) ∧ ((dataAll [(I6 n), AVal.sl [] 0 SlK.any] = true) ∧ (True)))) [⟨[(I6 n), .sl [] 0 .any], 2, .frozen⟩, ⟨[(I6 d)], 1, .frozen⟩, ⟨[(I6 l)], 1, .frozen⟩] ⟨[U6, U6, U6, .ptr 0 0, .ptr 1 0, .ptr 2 0, (B6 false)] ++ UU 30 ++ [(B6 false), .ptr 0 1, .sl [] 0 .any, .fn 106 [.ptr 1 0, .ptr 2 0, .ptr 0 0], (B6 false), .undef], [⟨[(I6 n), .sl [] 0 .any], 2, .frozen⟩, ⟨[(I6 d)], 1, .frozen⟩, ⟨[(I6 l)], 1, .frozen⟩]⟩ ⟨by kernel_rfl, by kernel_rfl, by kernel_rfl, by kernel_rfl⟩ (by kernel_rfl) ⟨(by rfl), ⟨(by rfl), ⟨(by rfl), trivial⟩⟩⟩ ?_
          refine RT 2 ?_
          refine AWP.ret ?_
          refine FI (.sc (.bool true)) ?_
          refine Shrink.all ?_ rfl
          (congr 2; rw [Bool.eq_iff_iff]; simp only [roughE, decide_eq_true_eq, Bool.false_eq_true, false_iff, true_iff, Bool.and_eq_true, Bool.or_eq_true, Bool.not_eq_true', Bool.not_eq_true, Bool.not_eq_false', decide_eq_false_iff_not, iff_true, iff_false, beq_iff_eq, beq_eq_false_iff_ne, ge_iff_le, gt_iff_lt, ne_eq, bne_iff_ne, not_true_eq_false, not_false_eq_true] at *; omega; done)
        · have h5' := of_decide_eq_true h5
          refine RT 3 ?_
          refine KL (NN 7 30) ⟨[U6, U6, U6, .ptr 0 0, .ptr 1 0, .ptr 2 0, (B6 false)] ++ UU 30 ++ [(B6 true)] ++ UU 5, [⟨[(I6 n), .sl [] 0 .any], 2, .fresh⟩, ⟨[(I6 d)], 1, .fresh⟩, ⟨[(I6 l)], 1, .fresh⟩]⟩ ?_
          refine CN true (fun _ => ?_) (fun h => nomatch h)
          refine SQ (RT 1 ?_)
          refine AWP.ret ?_
          refine FI (.sc (.bool false)) ?_
          refine Shrink.all ?_ rfl
          (congr 2; rw [Bool.eq_iff_iff]; simp only [roughE, decide_eq_true_eq, Bool.false_eq_true, false_iff, true_iff, Bool.and_eq_true, Bool.or_eq_true, Bool.not_eq_true', Bool.not_eq_true, Bool.not_eq_false', decide_eq_false_iff_not, iff_true, iff_false, beq_iff_eq, beq_eq_false_iff_ne, ge_iff_le, gt_iff_lt, ne_eq, bne_iff_ne, not_true_eq_false, not_false_eq_true] at *; omega; done)
      · have h4' := of_decide_eq_true h4
        refine RT 5 ?_
        refine KL (NN 7 30) ⟨[U6, U6, U6, .ptr 0 0, .ptr 1 0, .ptr 2 0, (B6 false)] ++ UU 30 ++ [(B6 true)] ++ UU 5, [⟨[(I6 n), .sl [] 0 .any], 2, .fresh⟩, ⟨[(I6 d)], 1, .fresh⟩, ⟨[(I6 l)], 1, .fresh⟩]⟩ ?_
        refine CN true (fun _ => ?_) (fun h => nomatch h)
        refine SQ (RT 1 ?_)
        refine AWP.ret ?_
        refine FI (.sc (.bool false)) ?_
        refine Shrink.all ?_ rfl
        (congr 2; rw [Bool.eq_iff_iff]; simp only [roughE, decide_eq_true_eq, Bool.false_eq_true, false_iff, true_iff, Bool.and_eq_true, Bool.or_eq_true, Bool.not_eq_true', Bool.not_eq_true, Bool.not_eq_false', decide_eq_false_iff_not, iff_true, iff_false, beq_iff_eq, beq_eq_false_iff_ne, ge_iff_le, gt_iff_lt, ne_eq, bne_iff_ne, not_true_eq_false, not_false_eq_true] at *; omega; done)
    · by_cases e2 : ks.length = 2
      · obtain ⟨n1, k1, n2, k2, rfl⟩ := two_of e2
        simp only [size, sizes] at hN
        rw [tcs2]
        by_cases hc : 0 ≤ n ∧ n ≤ l ∧ d ≠ 0
        · have q1 := e_rough1 n1 d l n k1 [.sc (.int .i64 n1), .sl (tcs k1) k1.length .any, .sc (.int .i64 n2), .sl (tcs k2) k2.length .any] 2 _ (by omega) (by omega) (ih n1 k1 (d - 1) (l - n) (by rw [size]; omega) (by omega) (by omega) (by omega) (by omega))
          have q2 := e_rough1 n2 d l n k2 [.sc (.int .i64 n1), .sl (tcs k1) k1.length .any, .sc (.int .i64 n2), .sl (tcs k2) k2.length .any] 2 _ (by omega) (by omega) (ih n2 k2 (d - 1) (l - n) (by rw [size]; omega) (by omega) (by omega) (by omega) (by omega))
          have q3 := e_cont _ _ _ _ _ _ _ _ _ _ _ q1 (fun _ => q2)
          refine EvD.body Try.func65 rfl rfl rfl ?_
          refine AWP.seq ?_
          refine TO ⟨[.agg [(I6 n), .sl [(I6 n1), tl k1, (I6 n2), tl k2] 2 .any], (I6 d), (I6 l)] ++ UU 40, []⟩ ?_
          refine AWP.reg (RT 4 ?_)
          refine AWP.seq (AWP.seq (KL [0, 1, 2] ⟨[U6, U6, U6, .ptr 0 0, .ptr 1 0, .ptr 2 0, (B6 false)] ++ UU 36, [⟨[(I6 n), .sl [(I6 n1), tl k1, (I6 n2), tl k2] 2 .any], 2, .fresh⟩, ⟨[(I6 d)], 1, .fresh⟩, ⟨[(I6 l)], 1, .fresh⟩]⟩ ?_))
          refine AWP.reg (PI 4 (True ∧ 0 < 2 ∧ True ∧ True ∧ True) ⟨trivial, (by omega), trivial, trivial, trivial⟩ ?_)
          refine DerQ.to ⟨[U6, U6, U6, .ptr 0 0, .ptr 1 0, .ptr 2 0, (B6 false), .ptr 0 0, (I6 n), (B6 (decide (n < 0))), (B6 (decide (n < 0)))] ++ UU 32, [⟨[(I6 n), .sl [(I6 n1), tl k1, (I6 n2), tl k2] 2 .any], 2, .fresh⟩, ⟨[(I6 d)], 1, .fresh⟩, ⟨[(I6 l)], 1, .fresh⟩]⟩ (by kernel_rfl) ?_
          cases h4 : (decide (n < 0))
          · have h4' := of_decide_eq_false h4
            refine PI 6 (True ∧ 0 < 2 ∧ 0 < 1 ∧ True ∧ True ∧ True ∧ True) ⟨trivial, (by omega), (by omega), trivial, trivial, trivial, trivial⟩ ?_
            refine DerQ.to ⟨[U6, U6, U6, .ptr 0 0, .ptr 1 0, .ptr 2 0, (B6 false), .ptr 0 0, (I6 n), (B6 false), (B6 false), .ptr 0 0, (I6 n), (I6 l), (B6 (decide (n > l))), (B6 (decide (n > l))), (B6 (decide (n > l)))] ++ UU 26, [⟨[(I6 n), .sl [(I6 n1), tl k1, (I6 n2), tl k2] 2 .any], 2, .fresh⟩, ⟨[(I6 d)], 1, .fresh⟩, ⟨[(I6 l)], 1, .fresh⟩]⟩ (by kernel_rfl) ?_
            cases h5 : (decide (n > l))
            · have h5' := of_decide_eq_false h5
              refine RI (True ∧ 1 < 2 ∧ True ∧ True ∧ True ∧ True ∧ 1 < 2 ∧ True ∧ True ∧ True ∧ True ∧ True ∧ True ∧ 1 < 2 ∧ True ∧ True ∧ True ∧ 0 < 1 ∧ True ∧ True ∧ True ∧ True) ⟨trivial, (by omega), trivial, trivial, trivial, trivial, (by omega), trivial, trivial, trivial, trivial, trivial, trivial, (by omega), trivial, trivial, trivial, (by omega), trivial, trivial, trivial, trivial⟩ ?_
              refine KL (NN 7 30) ⟨[U6, U6, U6, .ptr 0 0, .ptr 1 0, .ptr 2 0, (B6 false)] ++ UU 30 ++ [(B6 (d == 0))] ++ UU 5, [⟨[(I6 n), .sl [(I6 n1), tl k1, (I6 n2), tl k2] 2 .any], 2, .fresh⟩, ⟨[(I6 d)], 1, .fresh⟩, ⟨[(I6 l)], 1, .fresh⟩]⟩ ?_
              refine CN (d == 0) (fun h6 => ?_) (fun h6 => ?_)
              · have h6' := eq_of_beq h6
                exfalso; omega
              · have h6' := ne_of_beq_false h6
                refine AWP.skip (SQ (PI 3 (True ∧ 1 < 2 ∧ True ∧ True) ⟨trivial, (by omega), trivial, trivial⟩ ?_))
                refine DerQ.callG (q3) [1, 2, 0] [.sl [(I6 n1), tl k1, (I6 n2), tl k2] 2 .any, .fn 106 [.ptr 1 0, .ptr 2 0, .ptr 0 0]] [.sl [(I6 n1), tl k1, (I6 n2), tl k2] 2 .any, .fn 106 [.dptr [(I6 d)], .dptr [(I6 l)], .dptr [(I6 n), .sl [(I6 n1), tl k1, (I6 n2), tl k2] 2 .any]]] ((dataAll [(I6 d)] = true) ∧ ((dataAll [(I6 l)] = true) ∧ ((dataAll [(I6 n), AVal.sl [(I6 n1), tl k1, (I6 n2), tl k2] 2 SlK.any] = true) ∧ (True)))) [⟨[(I6 n), .sl [(I6 n1), tl k1, (I6 n2), tl k2] 2 .any], 2, .frozen⟩, ⟨[(I6 d)], 1, .frozen⟩, ⟨[(I6 l)], 1, .frozen⟩] ⟨[U6, U6, U6, .ptr 0 0, .ptr 1 0, .ptr 2 0, (B6 false)] ++ UU 30 ++ [(B6 (d == 0)), .ptr 0 1, .sl [(I6 n1), tl k1, (I6 n2), tl k2] 2 .any, .fn 106 [.ptr 1 0, .ptr 2 0, .ptr 0 0], (B6 (!roughE (d - 1) (l - n) (T.mk n1 k1) || !roughE (d - 1) (l - n) (T.mk n2 k2))), .undef], [⟨[(I6 n), .sl [(I6 n1), tl k1, (I6 n2), tl k2] 2 .any], 2, .frozen⟩, ⟨[(I6 d)], 1, .frozen⟩, ⟨[(I6 l)], 1, .frozen⟩]⟩ ⟨by kernel_rfl, by kernel_rfl, by kernel_rfl, by kernel_rfl⟩ (by kernel_rfl) ⟨(by rfl), ⟨(by rfl), ⟨(by rfl), trivial⟩⟩⟩ ?_
                refine RT 2 ?_
                refine AWP.ret ?_
                refine FI (.sc (.bool (!(!roughE (d - 1) (l - n) (T.mk n1 k1) || !roughE (d - 1) (l - n) (T.mk n2 k2))))) ?_
                refine Shrink.all ?_ rfl
                (simp [roughE, hc]; done)
            · have h5' := of_decide_eq_true h5
              exfalso; omega
          · have h4' := of_decide_eq_true h4
            exfalso; omega
        · refine EvD.body Try.func65 rfl rfl rfl ?_
          refine AWP.seq ?_
          refine TO ⟨[.agg [(I6 n), .sl [(I6 n1), tl k1, (I6 n2), tl k2] 2 .any], (I6 d), (I6 l)] ++ UU 40, []⟩ ?_
          refine AWP.reg (RT 4 ?_)
          refine AWP.seq (AWP.seq (KL [0, 1, 2] ⟨[U6, U6, U6, .ptr 0 0, .ptr 1 0, .ptr 2 0, (B6 false)] ++ UU 36, [⟨[(I6 n), .sl [(I6 n1), tl k1, (I6 n2), tl k2] 2 .any], 2, .fresh⟩, ⟨[(I6 d)], 1, .fresh⟩, ⟨[(I6 l)], 1, .fresh⟩]⟩ ?_))
          refine AWP.reg (PI 4 (True ∧ 0 < 2 ∧ True ∧ True ∧ True) ⟨trivial, (by omega), trivial, trivial, trivial⟩ ?_)
          refine DerQ.to ⟨[U6, U6, U6, .ptr 0 0, .ptr 1 0, .ptr 2 0, (B6 false), .ptr 0 0, (I6 n), (B6 (decide (n < 0))), (B6 (decide (n < 0)))] ++ UU 32, [⟨[(I6 n), .sl [(I6 n1), tl k1, (I6 n2), tl k2] 2 .any], 2, .fresh⟩, ⟨[(I6 d)], 1, .fresh⟩, ⟨[(I6 l)], 1, .fresh⟩]⟩ (by kernel_rfl) ?_
          cases h4 : (decide (n < 0))
          · have h4' := of_decide_eq_false h4
            refine PI 6 (True ∧ 0 < 2 ∧ 0 < 1 ∧ True ∧ True ∧ True ∧ True) ⟨trivial, (by omega), (by omega), trivial, trivial, trivial, trivial⟩ ?_
            refine DerQ.to ⟨[U6, U6, U6, .ptr 0 0, .ptr 1 0, .ptr 2 0, (B6 false), .ptr 0 0, (I6 n), (B6 false), (B6 false), .ptr 0 0, (I6 n), (I6 l), (B6 (decide (n > l))), (B6 (decide (n > l))), (B6 (decide (n > l)))] ++ UU 26, [⟨[(I6 n), .sl [(I6 n1), tl k1, (I6 n2), tl k2] 2 .any], 2, .fresh⟩, ⟨[(I6 d)], 1, .fresh⟩, ⟨[(I6 l)], 1, .fresh⟩]⟩ (by kernel_rfl) ?_
            cases h5 : (decide (n > l))
            · have h5' := of_decide_eq_false h5
              refine RI (True ∧ 1 < 2 ∧ True ∧ True ∧ True ∧ True ∧ 1 < 2 ∧ True ∧ True ∧ True ∧ True ∧ True ∧ True ∧ 1 < 2 ∧ True ∧ True ∧ True ∧ 0 < 1 ∧ True ∧ True ∧ True ∧ True) ⟨trivial, (by omega), trivial, trivial, trivial, trivial, (by omega), trivial, trivial, trivial, trivial, trivial, trivial, (by omega), trivial, trivial, trivial, (by omega), trivial, trivial, trivial, trivial⟩ ?_
              refine KL (NN 7 30) ⟨[U6, U6, U6, .ptr 0 0, .ptr 1 0, .ptr 2 0, (B6 false)] ++ UU 30 ++ [(B6 (d == 0))] ++ UU 5, [⟨[(I6 n), .sl [(I6 n1), tl k1, (I6 n2), tl k2] 2 .any], 2, .fresh⟩, ⟨[(I6 d)], 1, .fresh⟩, ⟨[(I6 l)], 1, .fresh⟩]⟩ ?_
              refine CN (d == 0) (fun h6 => ?_) (fun h6 => ?_)
              · have h6' := eq_of_beq h6
                refine SQ (RT 1 ?_)
                refine AWP.ret ?_
                refine FI (.sc (.bool false)) ?_
                refine Shrink.all ?_ rfl
                (simp only [roughE]; rw [decide_eq_false hc]; rfl; done)
              · have h6' := ne_of_beq_false h6
                exfalso; omega
            · have h5' := of_decide_eq_true h5
              refine RT 3 ?_
              refine KL (NN 7 30) ⟨[U6, U6, U6, .ptr 0 0, .ptr 1 0, .ptr 2 0, (B6 false)] ++ UU 30 ++ [(B6 true)] ++ UU 5, [⟨[(I6 n), .sl [(I6 n1), tl k1, (I6 n2), tl k2] 2 .any], 2, .fresh⟩, ⟨[(I6 d)], 1, .fresh⟩, ⟨[(I6 l)], 1, .fresh⟩]⟩ ?_
              refine CN true (fun _ => ?_) (fun h => nomatch h)
              refine SQ (RT 1 ?_)
              refine AWP.ret ?_
              refine FI (.sc (.bool false)) ?_
              refine Shrink.all ?_ rfl
              (simp only [roughE]; rw [decide_eq_false hc]; rfl; done)
          · have h4' := of_decide_eq_true h4
            refine RT 5 ?_
            refine KL (NN 7 30) ⟨[U6, U6, U6, .ptr 0 0, .ptr 1 0, .ptr 2 0, (B6 false)] ++ UU 30 ++ [(B6 true)] ++ UU 5, [⟨[(I6 n), .sl [(I6 n1), tl k1, (I6 n2), tl k2] 2 .any], 2, .fresh⟩, ⟨[(I6 d)], 1, .fresh⟩, ⟨[(I6 l)], 1, .fresh⟩]⟩ ?_
            refine CN true (fun _ => ?_) (fun h => nomatch h)
            refine SQ (RT 1 ?_)
            refine AWP.ret ?_
            refine FI (.sc (.bool false)) ?_
            refine Shrink.all ?_ rfl
            (simp only [roughE]; rw [decide_eq_false hc]; rfl; done)
      · refine EvD.body Try.func65 rfl rfl rfl ?_
        refine AWP.seq ?_
        refine TO ⟨[.agg [(I6 n), tl ks], (I6 d), (I6 l)] ++ UU 40, []⟩ ?_
        refine AWP.reg (RT 4 ?_)
        refine AWP.seq (AWP.seq (KL [0, 1, 2] ⟨[U6, U6, U6, .ptr 0 0, .ptr 1 0, .ptr 2 0, (B6 false)] ++ UU 36, [⟨[(I6 n), tl ks], 2, .fresh⟩, ⟨[(I6 d)], 1, .fresh⟩, ⟨[(I6 l)], 1, .fresh⟩]⟩ ?_))
        refine AWP.reg (PI 4 (True ∧ 0 < 2 ∧ True ∧ True ∧ True) ⟨trivial, (by omega), trivial, trivial, trivial⟩ ?_)
        refine DerQ.to ⟨[U6, U6, U6, .ptr 0 0, .ptr 1 0, .ptr 2 0, (B6 false), .ptr 0 0, (I6 n), (B6 (decide (n < 0))), (B6 (decide (n < 0)))] ++ UU 32, [⟨[(I6 n), tl ks], 2, .fresh⟩, ⟨[(I6 d)], 1, .fresh⟩, ⟨[(I6 l)], 1, .fresh⟩]⟩ (by kernel_rfl) ?_
        cases h4 : (decide (n < 0))
        · have h4' := of_decide_eq_false h4
          refine PI 6 (True ∧ 0 < 2 ∧ 0 < 1 ∧ True ∧ True ∧ True ∧ True) ⟨trivial, (by omega), (by omega), trivial, trivial, trivial, trivial⟩ ?_
          refine DerQ.to ⟨[U6, U6, U6, .ptr 0 0, .ptr 1 0, .ptr 2 0, (B6 false), .ptr 0 0, (I6 n), (B6 false), (B6 false), .ptr 0 0, (I6 n), (I6 l), (B6 (decide (n > l))), (B6 (decide (n > l))), (B6 (decide (n > l)))] ++ UU 26, [⟨[(I6 n), tl ks], 2, .fresh⟩, ⟨[(I6 d)], 1, .fresh⟩, ⟨[(I6 l)], 1, .fresh⟩]⟩ (by kernel_rfl) ?_
          cases h5 : (decide (n > l))
          · have h5' := of_decide_eq_false h5
            refine PI 5 (True ∧ 1 < 2 ∧ True ∧ True ∧ True ∧ True) ⟨trivial, (by omega), trivial, trivial, trivial, trivial⟩ ?_
            refine DerQ.to ⟨[U6, U6, U6, .ptr 0 0, .ptr 1 0, .ptr 2 0, (B6 false), .ptr 0 0, (I6 n), (B6 false), (B6 false), .ptr 0 0, (I6 n), (I6 l), (B6 false), (B6 false), (B6 false), .ptr 0 1, tl ks, (I6 (↑(List.length ks) : Int)), (B6 ((↑(List.length ks) : Int) != 0)), (B6 ((↑(List.length ks) : Int) != 0))] ++ UU 21, [⟨[(I6 n), tl ks], 2, .fresh⟩, ⟨[(I6 d)], 1, .fresh⟩, ⟨[(I6 l)], 1, .fresh⟩]⟩ (by kernel_rfl) ?_
            cases h6 : ((↑(List.length ks) : Int) != 0)
            · have h6' := bne_eq_false_iff_eq.1 h6
              exfalso; omega
            · have h6' := bne_iff_ne.1 h6
              refine PI 7 (True ∧ 1 < 2 ∧ True ∧ True ∧ True ∧ True ∧ True ∧ True) ⟨trivial, (by omega), trivial, trivial, trivial, trivial, trivial, trivial⟩ ?_
              refine DerQ.to ⟨[U6, U6, U6, .ptr 0 0, .ptr 1 0, .ptr 2 0, (B6 false), .ptr 0 0, (I6 n), (B6 false), (B6 false), .ptr 0 0, (I6 n), (I6 l), (B6 false), (B6 false), (B6 false), .ptr 0 1, tl ks, (I6 (↑(List.length ks) : Int)), (B6 true), (B6 true), .ptr 0 1, tl ks, (I6 (↑(List.length ks) : Int)), (B6 ((↑(List.length ks) : Int) != 2)), (B6 ((↑(List.length ks) : Int) != 2)), (B6 ((↑(List.length ks) : Int) != 2)), (B6 ((↑(List.length ks) : Int) != 2))] ++ UU 14, [⟨[(I6 n), tl ks], 2, .fresh⟩, ⟨[(I6 d)], 1, .fresh⟩, ⟨[(I6 l)], 1, .fresh⟩]⟩ (by kernel_rfl) ?_
              cases h7 : ((↑(List.length ks) : Int) != 2)
              · have h7' := bne_eq_false_iff_eq.1 h7
                exfalso; omega
              · have h7' := bne_iff_ne.1 h7
                refine RT 1 ?_
                refine KL (NN 7 30) ⟨[U6, U6, U6, .ptr 0 0, .ptr 1 0, .ptr 2 0, (B6 false)] ++ UU 30 ++ [(B6 true)] ++ UU 5, [⟨[(I6 n), tl ks], 2, .fresh⟩, ⟨[(I6 d)], 1, .fresh⟩, ⟨[(I6 l)], 1, .fresh⟩]⟩ ?_
                refine CN true (fun _ => ?_) (fun h => nomatch h)
                refine SQ (RT 1 ?_)
                refine AWP.ret ?_
                refine FI (.sc (.bool false)) ?_
                refine Shrink.all ?_ rfl
                (rw [roughE_no e0 e2]; done)
          · have h5' := of_decide_eq_true h5
            refine RT 3 ?_
            refine KL (NN 7 30) ⟨[U6, U6, U6, .ptr 0 0, .ptr 1 0, .ptr 2 0, (B6 false)] ++ UU 30 ++ [(B6 true)] ++ UU 5, [⟨[(I6 n), tl ks], 2, .fresh⟩, ⟨[(I6 d)], 1, .fresh⟩, ⟨[(I6 l)], 1, .fresh⟩]⟩ ?_
            refine CN true (fun _ => ?_) (fun h => nomatch h)
            refine SQ (RT 1 ?_)
            refine AWP.ret ?_
            refine FI (.sc (.bool false)) ?_
            refine Shrink.all ?_ rfl
            (rw [roughE_no e0 e2]; done)
        · have h4' := of_decide_eq_true h4
          refine RT 5 ?_
          refine KL (NN 7 30) ⟨[U6, U6, U6, .ptr 0 0, .ptr 1 0, .ptr 2 0, (B6 false)] ++ UU 30 ++ [(B6 true)] ++ UU 5, [⟨[(I6 n), tl ks], 2, .fresh⟩, ⟨[(I6 d)], 1, .fresh⟩, ⟨[(I6 l)], 1, .fresh⟩]⟩ ?_
          refine CN true (fun _ => ?_) (fun h => nomatch h)
          refine SQ (RT 1 ?_)
          refine AWP.ret ?_
          refine FI (.sc (.bool false)) ?_
          refine Shrink.all ?_ rfl
          (rw [roughE_no e0 e2]; done)
end Go.Tr
