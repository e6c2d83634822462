/- Walks and laws. -/
import Derived.Test.YtikllaiggklljaaDk11
import Derived.Test.YtikllaiggklljaaLibC
set_option maxRecDepth 100000
set_option maxHeartbeats 0
set_option linter.unusedSimpArgs false
set_option linter.unusedVariables false
namespace Go.Dk
open Go Go.Abs Go.Proofs
open Go.Chu (concat2)
/-- The files behind i puts. -/
def filA (d : List Int) : Nat → List FileD
  | 0 => []
  | _ + 1 => [⟨⟨#[97]⟩, d, (d.length : Int)⟩]
theorem okF_one (d : List Int) (room : Int) (hd : d.length ≤ room) : okF room [⟨⟨#[97]⟩, d, (d.length : Int)⟩] 0 := by
  refine ⟨?_, ?_, ?_, ?_, ?_⟩
  · show namedP ⟨#[97]⟩; decide +kernel
  · show (0 : Int) ≤ (d.length : Int); omega
  · show (d.length : Int) ≤ (d.length : Int); omega
  · show (d.length : Int) ≤ room; omega
  · intro h; omega
theorem okA (d : List Int) (hd : d.length ≤ 20) (room : Int) (hr : 100 ≤ room ∧ room ≤ 2000) (i : Nat) (arm : Int) (ha : -1 ≤ arm) : okD room arm (filA d i) := by
  cases i with
  | zero => exact ⟨by omega, by omega, ha, by simp [filA], fun i hi => by simp [filA] at hi⟩
  | succ i =>
    refine ⟨by omega, by omega, ha, by simp [filA], fun j hj => ?_⟩
    have : j = 0 := by simp [filA] at hj; exact hj
    subst this
    exact okF_one d room (by omega)
theorem filA_len (d : List Int) (i : Nat) : (filA d i).length = min i 1 := by
  cases i with
  | zero => rfl
  | succ i => simp [filA]
theorem askA (d : List Int) (hd : d.length ≤ 20) (room : Int) (hr : 100 ≤ room ∧ room ≤ 2000) (i : Nat) (arm : Int) (ha : -1 ≤ arm) (s : ByteArray) (hs : namedP s) : askE room arm false (filA d i) s = 0 := askE_ok.2 ⟨okA d hd room hr i arm ha, rfl, hs⟩
theorem hasA (d : List Int) (i : Nat) : has (filA d (i + 1)) ⟨#[97]⟩ := by
  have e : low (filA d (i + 1)) ⟨#[97]⟩ = 0 := by
    unfold low filA
    rw [List.takeWhile_cons_of_neg (by simp [ltB])]; rfl
  exact ⟨by rw [e]; exact Nat.one_pos, by rw [e]; rfl⟩
theorem lowA (d : List Int) (i : Nat) : low (filA d i) ⟨#[97]⟩ = 0 := by
  cases i with
  | zero => rfl
  | succ i =>
    unfold low filA
    rw [List.takeWhile_cons_of_neg (by simp [ltB])]; rfl
theorem usedA (d : List Int) (i : Nat) : usedL (filA d i) ≤ d.length := by
  cases i with
  | zero => simp [filA, usedL]
  | succ i => simp [filA, usedL]
theorem roomA (d : List Int) (hd : d.length ≤ 20) (room : Int) (hr : 100 ≤ room ∧ room ≤ 2000) (i : Nat) (s : ByteArray) : roomP room (filA d i) s (d.length : Int) := by
  have h1 := usedA d i
  have h2 := filA_len d i
  unfold roomP
  split <;> omega
theorem putA_eq (d : List Int) (i : Nat) : putL (filA d i) ⟨⟨#[97]⟩, d, (d.length : Int)⟩ = filA d (i + 1) := by
  cases i with
  | zero => rfl
  | succ i =>
    unfold putL
    rw [if_pos (hasA d i)]
    show List.set (filA d (i + 1)) (low (filA d (i + 1)) ⟨#[97]⟩) _ = _
    rw [lowA]; rfl
def armI (n : Int) : Nat → Int
  | 0 => n
  | i + 1 => armI n i - 1
theorem armI_eq (n : Int) (i : Nat) : armI n i = n - i := by
  induction i with
  | zero => simp [armI]
  | succ i ih => rw [armI, ih]; omega
theorem putA (d : List Int) (hd : d.length ≤ 20) (room : Int) (hr : 100 ≤ room ∧ room ≤ 2000) (n : Int) (i : Nat) (hn : n ≤ 20) (hi : (i : Int) < n) : EvD Try.prog 42 [.agg [.sl (fisc (filA d i)) (filA d i).length .any, .sc (.int .i64 room), .sc (.int .i64 (armI n i)), .sc (.bool false)], .sc (.string ⟨#[97]⟩), .sl (u8s d) d.length .any] (.tup [.agg [.sl (fisc (filA d (i + 1))) (filA d (i + 1)).length .any, .sc (.int .i64 room), .sc (.int .i64 (armI n (i + 1))), .sc (.bool false)], .sc (.int .i64 0)]) := by
  have h := put_ok (filA d i) room (n - (i : Int)) false (by rw [filA_len]; omega) ⟨#[97]⟩ d (by omega) (okA d hd room hr i _ (by omega)) (askA d hd room hr i _ (by omega) _ (by decide +kernel)) (roomA d hd room hr i _) (by omega) (by omega)
  rw [putA_eq d i] at h
  refine h.cast (by rw [armI_eq]) ?_
  have e : armN (n - (i : Int)) = n - ((i + 1 : Nat) : Int) := by unfold armN; split <;> omega
  rw [e, ← armI_eq]
theorem putB (d : List Int) (hd : d.length ≤ 20) (room : Int) (hr : 100 ≤ room ∧ room ≤ 2000) (n : Int) (i : Nat) (hi : n - (i : Int) = 0) : EvD Try.prog 42 [.agg [.sl (fisc (filA d i)) (filA d i).length .any, .sc (.int .i64 room), .sc (.int .i64 (armI n i)), .sc (.bool false)], .sc (.string ⟨#[98]⟩), .sl (u8s d) d.length .any] (.tup [.agg [.sl (fisc (filA d i)) (filA d i).length .any, .sc (.int .i64 room), .sc (.int .i64 (armI n i)), .sc (.bool true)], .sc (.int .i64 220)]) := by
  have h := put_out (filA d i) room (by rw [filA_len]; omega) ⟨#[98]⟩ d (by omega) (okA d hd room hr i _ (by omega)) (askA d hd room hr i _ (by omega) _ (by decide +kernel)) (roomA d hd room hr i _)
  rw [armI_eq, hi]; exact h
theorem readA (d : List Int) (hd : d.length ≤ 20) (room : Int) (hr : 100 ≤ room ∧ room ≤ 2000) (arm : Int) (ha : -1 ≤ arm) (i : Nat) : EvD Try.prog 43 [.agg [.sl (fisc (filA d i)) (filA d i).length .any, .sc (.int .i64 room), .sc (.int .i64 arm), .sc (.bool true)], .sc (.string ⟨#[97]⟩)] (.tup [.sl [] 0 .any, .sc (.int .i64 220)]) :=
  read_ask (filA d i) room arm true (by rw [filA_len]; omega) _ 220 (by omega) (by unfold askE; rw [if_neg (by simpa using okA d hd room hr i arm ha)]; rfl)
theorem crashA (d : List Int) (hd : d.length ≤ 20) (room : Int) (hr : 100 ≤ room ∧ room ≤ 2000) (arm : Int) (ha : -1 ≤ arm) (i : Nat) : EvD Try.prog 44 [.agg [.sl (fisc (filA d i)) (filA d i).length .any, .sc (.int .i64 room), .sc (.int .i64 arm), .sc (.bool true)], .sc (.int .i64 0)] (.agg [.sl (fisc (crL (filA d i) 0 (filA d i).length)) (filA d i).length .any, .sc (.int .i64 room), .sc (.int .i64 (-1)), .sc (.bool false)]) :=
  crash_ok (filA d i) room arm true (by rw [filA_len]; omega) 0 (okA d hd room hr i arm ha)
theorem newA (d : List Int) (hd : d.length ≤ 20) (room : Int) (hr : 100 ≤ room ∧ room ≤ 2000) : EvD Try.prog 40 [.sc (.int .i64 room)] (.tup [.agg [.sl (fisc []) 0 .any, .sc (.int .i64 room), .sc (.int .i64 (-1)), .sc (.bool false)], .sc (.int .i64 0)]) := new_ok room (by omega)
theorem armA (d : List Int) (hd : d.length ≤ 20) (room : Int) (hr : 100 ≤ room ∧ room ≤ 2000) (n : Int) (hn : 0 ≤ n) : EvD Try.prog 41 [.agg [.sl (fisc []) 0 .any, .sc (.int .i64 room), .sc (.int .i64 (-1)), .sc (.bool false)], .sc (.int .i64 n)] (.tup [.agg [.sl (fisc []) 0 .any, .sc (.int .i64 room), .sc (.int .i64 n), .sc (.bool false)], .sc (.int .i64 0)]) := arm_ok [] room (-1) false (by simp) n (okA d hd room hr 0 (-1) (by omega)) rfl (by omega)
theorem calls_no (room n : Int) (d : List Int) (h : ¬ ((100 ≤ room ∧ room ≤ 2000) ∧ (0 ≤ n ∧ n ≤ 20) ∧ d.length ≤ 20)) : EvD Try.prog 10 [.sc (.int .i64 room), .sc (.int .i64 n), .sl (u8s d) d.length .any] (.sc (.bool true)) := by
  refine EvD.body Try.func10 rfl (by simp [dataAll, AVal.data]) (by simp [dataAll, AVal.data]) ?_
  refine AWP.seq ?_
  refine TO ⟨[(I6 room), (I6 n), .sl (u8s d) (List.length d) .any] ++ UU 110, []⟩ ?_
  refine AWP.reg (RT 1 ?_)
  refine AWP.seq (AWP.seq ?_)
  refine TO ⟨[(I6 room), (I6 n), .sl (u8s d) (List.length d) .any, U6, U6, U6, (B6 false)] ++ UU 106, []⟩ ?_
  refine AWP.reg (PT 3 3 ?_)
  refine DerQ.to ⟨[(I6 room), (I6 n), .sl (u8s d) (List.length d) .any, U6, U6, U6, (B6 false)] ++ UU 10 ++ [(I6 room), (B6 (decide (room < 100))), (B6 (decide (room < 100)))] ++ UU 93, []⟩ (by kernel_rfl) ?_
  cases h1 : (decide (room < 100))
  · have h1' := of_decide_eq_false h1
    refine PT 4 4 ?_
    refine DerQ.to ⟨[(I6 room), (I6 n), .sl (u8s d) (List.length d) .any, U6, U6, U6, (B6 false)] ++ UU 10 ++ [(I6 room), (B6 false), (B6 false), (I6 room), (B6 (decide (room > 2000))), (B6 (decide (room > 2000))), (B6 (decide (room > 2000)))] ++ UU 89, []⟩ (by kernel_rfl) ?_
    cases h2 : (decide (room > 2000))
    · have h2' := of_decide_eq_false h2
      refine PT 4 4 ?_
      refine DerQ.to ⟨[(I6 room), (I6 n), .sl (u8s d) (List.length d) .any, U6, U6, U6, (B6 false)] ++ UU 10 ++ [(I6 room), (B6 false), (B6 false), (I6 room), (B6 false), (B6 false), (B6 false), (I6 n), (B6 (decide (n < 0))), (B6 (decide (n < 0))), (B6 (decide (n < 0)))] ++ UU 85, []⟩ (by kernel_rfl) ?_
      cases h3 : (decide (n < 0))
      · have h3' := of_decide_eq_false h3
        refine PT 4 4 ?_
        refine DerQ.to ⟨[(I6 room), (I6 n), .sl (u8s d) (List.length d) .any, U6, U6, U6, (B6 false)] ++ UU 10 ++ [(I6 room), (B6 false), (B6 false), (I6 room), (B6 false), (B6 false), (B6 false), (I6 n), (B6 false), (B6 false), (B6 false), (I6 n), (B6 (decide (n > 20))), (B6 (decide (n > 20))), (B6 (decide (n > 20)))] ++ UU 81, []⟩ (by kernel_rfl) ?_
        cases h4 : (decide (n > 20))
        · have h4' := of_decide_eq_false h4
          refine RT 4 ?_
          refine KL (NN 17 18) ⟨[(I6 room), (I6 n), .sl (u8s d) (List.length d) .any, U6, U6, U6, (B6 false)] ++ UU 28 ++ [(B6 (decide ((↑(List.length d) : Int) > 20)))] ++ UU 77, []⟩ ?_
          refine CN (decide ((↑(List.length d) : Int) > 20)) (fun h5 => ?_) (fun h5 => ?_)
          · have h5' := of_decide_eq_true h5
            refine SQ (CD (heads) ?_)
            refine RT 1 ?_
            refine AWP.ret FA
          · have h5' := of_decide_eq_false h5
            exfalso; omega
        · have h4' := of_decide_eq_true h4
          refine RT 1 ?_
          refine KL (NN 17 18) ⟨[(I6 room), (I6 n), .sl (u8s d) (List.length d) .any, U6, U6, U6, (B6 false)] ++ UU 28 ++ [(B6 true)] ++ UU 77, []⟩ ?_
          refine CN true (fun _ => ?_) (fun h => nomatch h)
          refine SQ (CD (heads) ?_)
          refine RT 1 ?_
          refine AWP.ret FA
      · have h3' := of_decide_eq_true h3
        refine RT 3 ?_
        refine KL (NN 17 18) ⟨[(I6 room), (I6 n), .sl (u8s d) (List.length d) .any, U6, U6, U6, (B6 false)] ++ UU 28 ++ [(B6 true)] ++ UU 77, []⟩ ?_
        refine CN true (fun _ => ?_) (fun h => nomatch h)
        refine SQ (CD (heads) ?_)
        refine RT 1 ?_
        refine AWP.ret FA
    · have h2' := of_decide_eq_true h2
      refine RT 5 ?_
      refine KL (NN 17 18) ⟨[(I6 room), (I6 n), .sl (u8s d) (List.length d) .any, U6, U6, U6, (B6 false)] ++ UU 28 ++ [(B6 true)] ++ UU 77, []⟩ ?_
      refine CN true (fun _ => ?_) (fun h => nomatch h)
      refine SQ (CD (heads) ?_)
      refine RT 1 ?_
      refine AWP.ret FA
  · have h1' := of_decide_eq_true h1
    refine RT 7 ?_
    refine KL (NN 17 18) ⟨[(I6 room), (I6 n), .sl (u8s d) (List.length d) .any, U6, U6, U6, (B6 false)] ++ UU 28 ++ [(B6 true)] ++ UU 77, []⟩ ?_
    refine CN true (fun _ => ?_) (fun h => nomatch h)
    refine SQ (CD (heads) ?_)
    refine RT 1 ?_
    refine AWP.ret FA
theorem calls_ok (d : List Int) (hd : d.length ≤ 20) (room : Int) (hr : 100 ≤ room ∧ room ≤ 2000) (n : Int) (hn : 0 ≤ n ∧ n ≤ 20) : EvD Try.prog 10 [.sc (.int .i64 room), .sc (.int .i64 n), .sl (u8s d) d.length .any] (.sc (.bool true)) := by
  have hnew := newA d hd room hr
  have harm := armA d hd room hr n hn.1
  refine EvD.body Try.func10 rfl (by simp [dataAll, AVal.data]) (by simp [dataAll, AVal.data]) ?_
  refine AWP.seq ?_
  refine TO ⟨[(I6 room), (I6 n), .sl (u8s d) (List.length d) .any] ++ UU 110, []⟩ ?_
  refine AWP.reg (RT 1 ?_)
  refine AWP.seq (AWP.seq ?_)
  refine TO ⟨[(I6 room), (I6 n), .sl (u8s d) (List.length d) .any, U6, U6, U6, (B6 false)] ++ UU 106, []⟩ ?_
  refine AWP.reg (PT 3 3 ?_)
  refine DerQ.to ⟨[(I6 room), (I6 n), .sl (u8s d) (List.length d) .any, U6, U6, U6, (B6 false)] ++ UU 10 ++ [(I6 room), (B6 (decide (room < 100))), (B6 (decide (room < 100)))] ++ UU 93, []⟩ (by kernel_rfl) ?_
  cases h1 : (decide (room < 100))
  · have h1' := of_decide_eq_false h1
    refine PT 4 4 ?_
    refine DerQ.to ⟨[(I6 room), (I6 n), .sl (u8s d) (List.length d) .any, U6, U6, U6, (B6 false)] ++ UU 10 ++ [(I6 room), (B6 false), (B6 false), (I6 room), (B6 (decide (room > 2000))), (B6 (decide (room > 2000))), (B6 (decide (room > 2000)))] ++ UU 89, []⟩ (by kernel_rfl) ?_
    cases h2 : (decide (room > 2000))
    · have h2' := of_decide_eq_false h2
      refine PT 4 4 ?_
      refine DerQ.to ⟨[(I6 room), (I6 n), .sl (u8s d) (List.length d) .any, U6, U6, U6, (B6 false)] ++ UU 10 ++ [(I6 room), (B6 false), (B6 false), (I6 room), (B6 false), (B6 false), (B6 false), (I6 n), (B6 (decide (n < 0))), (B6 (decide (n < 0))), (B6 (decide (n < 0)))] ++ UU 85, []⟩ (by kernel_rfl) ?_
      cases h3 : (decide (n < 0))
      · have h3' := of_decide_eq_false h3
        refine PT 4 4 ?_
        refine DerQ.to ⟨[(I6 room), (I6 n), .sl (u8s d) (List.length d) .any, U6, U6, U6, (B6 false)] ++ UU 10 ++ [(I6 room), (B6 false), (B6 false), (I6 room), (B6 false), (B6 false), (B6 false), (I6 n), (B6 false), (B6 false), (B6 false), (I6 n), (B6 (decide (n > 20))), (B6 (decide (n > 20))), (B6 (decide (n > 20)))] ++ UU 81, []⟩ (by kernel_rfl) ?_
        cases h4 : (decide (n > 20))
        · have h4' := of_decide_eq_false h4
          refine RT 4 ?_
          refine KL (NN 17 18) ⟨[(I6 room), (I6 n), .sl (u8s d) (List.length d) .any, U6, U6, U6, (B6 false)] ++ UU 28 ++ [(B6 (decide ((↑(List.length d) : Int) > 20)))] ++ UU 77, []⟩ ?_
          refine CN (decide ((↑(List.length d) : Int) > 20)) (fun h5 => ?_) (fun h5 => ?_)
          · have h5' := of_decide_eq_true h5
            exfalso; omega
          · have h5' := of_decide_eq_false h5
            refine AWP.skip (SQ (PT 1 1 ?_))
            refine CD (hnew) ?_
            refine RI (True ∧ True ∧ True ∧ True ∧ 4 ≤ 4 ∧ True ∧ True) ⟨trivial, trivial, trivial, trivial, (by omega), trivial, trivial⟩ ?_
            refine AWP.seq (KL ([0, 35] ++ NN 37 5) ⟨[U6, (I6 n), .sl (u8s d) (List.length d) .any, U6, U6, U6, (B6 false), .ptr 0 0, (I6 0)] ++ UU 104, [⟨[.sl [] 0 .any, (I6 room), (I6 (-1)), (B6 false)], 4, .fresh⟩]⟩ ?_)
            refine AWP.reg (PI 2 (4 ≤ 4 ∧ True ∧ True) ⟨(by omega), trivial, trivial⟩ ?_)
            refine CD (harm) ?_
            refine RI (True ∧ True ∧ True ∧ 4 ≤ 4 ∧ True ∧ True) ⟨trivial, trivial, trivial, (by omega), trivial, trivial⟩ ?_
            refine AWP.seq (AWP.seq (KL (NN 42 6) ⟨[U6, (I6 n), .sl (u8s d) (List.length d) .any, U6, U6, U6, (B6 false), .ptr 0 0, (I6 0), (I6 0)] ++ UU 103, [⟨[.sl [] 0 .any, (I6 room), (I6 n), (B6 false)], 4, .fresh⟩]⟩ ?_))
            refine AWP.reg (RT 6 ?_)
            refine KL ([8, 9] ++ NN 48 5) ⟨[U6, (I6 n), .sl (u8s d) (List.length d) .any, U6, U6, U6, (B6 false), .ptr 0 0] ++ UU 45 ++ [(B6 false)] ++ UU 59, [⟨[.sl [] 0 .any, (I6 room), (I6 n), (B6 false)], 4, .fresh⟩]⟩ ?_
            refine CN false (fun h => nomatch h) (fun _ => ?_)
            refine AWP.skip (AWP.seq (SQ (RT 1 ?_)))
            refine AWP.block (KL [53] ⟨[U6, (I6 n), .sl (u8s d) (List.length d) .any, U6, U6, U6, (B6 false), .ptr 0 0, U6, U6, (I6 0)] ++ UU 102, [⟨[.sl [] 0 .any, (I6 room), (I6 n), (B6 false)], 4, .fresh⟩]⟩ ?_)
            refine AWP.loopW [false, true, true, false, false, false, true, true, false, false, true, false, false, false, false, false, false, false, false, false, false, false, false, false, false, false, false, false, false, false, false, false, false, false, false, false, false, false, false, false, false, false, false, false, false, false, false, false, false, false, false, false, false, false, false, false, false, false, false, false, false, false, false, false, false, false, false, false, false, false, false, false, false, false, false, false, false, false, false, false, false, false, false, false, false, false, false, false, false, false, false, false, false, false, false, false, false, false, false, false, false, false, false, false, false, false, false, false, false, false, false, false, false] (fun kk st => ∃ (i : Nat), kk = n.toNat - i ∧ (i : Int) ≤ n ∧ st = ⟨[U6, (I6 n), .sl (u8s d) (List.length d) .any, U6, U6, U6, (B6 false), .ptr 0 0, U6, U6, (I6 (i : Int)), U6, U6, U6, U6, U6, U6, U6, U6, U6, U6, U6, U6, U6, U6, U6, U6, U6, U6, U6, U6, U6, U6, U6, U6, U6, U6, U6, U6, U6, U6, U6, U6, U6, U6, U6, U6, U6, U6, U6, U6, U6, U6, U6, U6, U6, U6, U6, U6, U6, U6, U6, U6, U6, U6, U6, U6, U6, U6, U6, U6, U6, U6, U6, U6, U6, U6, U6, U6, U6, U6, U6, U6, U6, U6, U6, U6, U6, U6, U6, U6, U6, U6, U6, U6, U6, U6, U6, U6, U6, U6, U6, U6, U6, U6, U6, U6, U6, U6, U6, U6, U6, .undef], [⟨[.sl (fisc (filA d i)) (filA d i).length .any, (I6 room), (I6 (armI n i)), (B6 false)], 4, .fresh⟩]⟩) _ ⟨0, rfl, by omega, by kernel_rfl⟩ ?_
            rintro kk s ⟨i, rfl, hi, rfl⟩
            have hfl := filA_len d i
            refine AWP.seq (SQ (RT 3 ?_))
            refine KL [54, 55] ⟨[U6, (I6 n), .sl (u8s d) (List.length d) .any, U6, U6, U6, (B6 false), .ptr 0 0, U6, U6, (I6 (↑i : Int))] ++ UU 45 ++ [(B6 (decide ((↑i : Int) < n)))] ++ UU 56, [⟨[.sl (fisc (filA d i)) (List.length (filA d i)) .any, (I6 room), (I6 (armI n i)), (B6 false)], 4, .fresh⟩]⟩ ?_
            refine CN (decide ((↑i : Int) < n)) (fun h6 => ?_) (fun h6 => ?_)
            · have h6' := of_decide_eq_true h6
              refine AWP.skip (AWP.seq (AWP.block (SQ (PI 2 (4 ≤ 4 ∧ True ∧ True) ⟨(by omega), trivial, trivial⟩ ?_))))
              refine DerQ.callD ((fun i : Nat => putA d hd room hr n i hn.2) i (by omega)) ⟨[U6, (I6 n), .sl (u8s d) (List.length d) .any, U6, U6, U6, (B6 false), .ptr 0 0, U6, U6, (I6 (↑i : Int))] ++ UU 45 ++ [(B6 (decide ((↑i : Int) < n))), U6, U6, U6, .agg [.sl (fisc (filA d i)) (List.length (filA d i)) .any, (I6 room), (I6 (armI n i)), (B6 false)], .sl (u8s d) (List.length d) .any, .tup [.agg [.sl [(S6 ({ data := #[(97 : UInt8)] })), .sl (u8s d) (List.length d) .any, (I6 (↑(List.length d) : Int))] 1 .any, (I6 room), (I6 (armI n (i + 1))), (B6 false)], (I6 0)]] ++ UU 50, [⟨[.sl (fisc (filA d i)) (List.length (filA d i)) .any, (I6 room), (I6 (armI n i)), (B6 false)], 4, .fresh⟩]⟩ ⟨by kernel_rfl, by kernel_rfl, by kernel_rfl⟩ ?_
              refine DerQ.run (True ∧ True ∧ True ∧ True ∧ 4 ≤ 4 ∧ True ∧ True) ⟨[U6, (I6 n), .sl (u8s d) (List.length d) .any, U6, U6, U6, (B6 false), .ptr 0 0, U6, U6, (I6 (↑i : Int)), .ptr 1 0, (I6 0)] ++ UU 43 ++ [(B6 (decide ((↑i : Int) < n))), U6, U6, .tup [.agg [.sl [(S6 ({ data := #[(97 : UInt8)] })), .sl (u8s d) (List.length d) .any, (I6 (↑(List.length d) : Int))] 1 .any, (I6 room), (I6 (armI n (i + 1))), (B6 false)], (I6 0)], .agg [.sl (fisc (filA d i)) (List.length (filA d i)) .any, (I6 room), (I6 (armI n i)), (B6 false)], .sl (u8s d) (List.length d) .any, .tup [.agg [.sl [(S6 ({ data := #[(97 : UInt8)] })), .sl (u8s d) (List.length d) .any, (I6 (↑(List.length d) : Int))] 1 .any, (I6 room), (I6 (armI n (i + 1))), (B6 false)], (I6 0)], .agg [.sl [(S6 ({ data := #[(97 : UInt8)] })), .sl (u8s d) (List.length d) .any, (I6 (↑(List.length d) : Int))] 1 .any, (I6 room), (I6 (armI n (i + 1))), (B6 false)], (I6 0)] ++ UU 48, [⟨[.sl (fisc (filA d i)) (List.length (filA d i)) .any, (I6 room), (I6 (armI n i)), (B6 false)], 4, .fresh⟩, ⟨[.sl [(S6 ({ data := #[(97 : UInt8)] })), .sl (u8s d) (List.length d) .any, (I6 (↑(List.length d) : Int))] 1 .any, (I6 room), (I6 (armI n (i + 1))), (B6 false)], 4, .fresh⟩]⟩ (by kernel_rfl) ⟨trivial, trivial, trivial, trivial, (by omega), trivial, trivial⟩ ?_
              refine AWP.seq (AWP.seq (KL ([56] ++ NN 59 6) ⟨[U6, (I6 n), .sl (u8s d) (List.length d) .any, U6, U6, U6, (B6 false), .ptr 0 0, U6, U6, (I6 (↑i : Int)), .ptr 1 0, (I6 0)] ++ UU 100, [⟨[.sl (fisc (filA d i)) (List.length (filA d i)) .any, (I6 room), (I6 (armI n i)), (B6 false)], 4, .fresh⟩, ⟨[.sl [(S6 ({ data := #[(97 : UInt8)] })), .sl (u8s d) (List.length d) .any, (I6 (↑(List.length d) : Int))] 1 .any, (I6 room), (I6 (armI n (i + 1))), (B6 false)], 4, .fresh⟩]⟩ ?_))
              refine AWP.reg ?_
              refine DerQ.run (True ∧ True ∧ True ∧ True ∧ 3 < 4 ∧ True ∧ True) ⟨[U6, (I6 n), .sl (u8s d) (List.length d) .any, U6, U6, U6, (B6 false), .ptr 0 0, U6, U6, (I6 (↑i : Int)), .ptr 1 0, (I6 0)] ++ UU 52 ++ [(I6 0), (B6 false), (B6 false), .ptr 1 3, (B6 false), (B6 false)] ++ UU 42, [⟨[.sl (fisc (filA d i)) (List.length (filA d i)) .any, (I6 room), (I6 (armI n i)), (B6 false)], 4, .fresh⟩, ⟨[.sl [(S6 ({ data := #[(97 : UInt8)] })), .sl (u8s d) (List.length d) .any, (I6 (↑(List.length d) : Int))] 1 .any, (I6 room), (I6 (armI n (i + 1))), (B6 false)], 4, .fresh⟩]⟩ (by kernel_rfl) ⟨trivial, trivial, trivial, trivial, (by omega), trivial, trivial⟩ ?_
              refine KL ([12] ++ NN 65 5) ⟨[U6, (I6 n), .sl (u8s d) (List.length d) .any, U6, U6, U6, (B6 false), .ptr 0 0, U6, U6, (I6 (↑i : Int)), .ptr 1 0] ++ UU 58 ++ [(B6 false)] ++ UU 42, [⟨[.sl (fisc (filA d i)) (List.length (filA d i)) .any, (I6 room), (I6 (armI n i)), (B6 false)], 4, .fresh⟩, ⟨[.sl [(S6 ({ data := #[(97 : UInt8)] })), .sl (u8s d) (List.length d) .any, (I6 (↑(List.length d) : Int))] 1 .any, (I6 room), (I6 (armI n (i + 1))), (B6 false)], 4, .fresh⟩]⟩ ?_
              refine CN false (fun h => nomatch h) (fun _ => ?_)
              refine AWP.skip (AWP.reg ?_)
              refine DerQ.run (4 ≤ 4 ∧ 4 ≤ 4 ∧ True) ⟨[U6, (I6 n), .sl (u8s d) (List.length d) .any, U6, U6, U6, (B6 false), .ptr 0 0, U6, U6, (I6 (↑i : Int)), .ptr 1 0] ++ UU 58 ++ [(B6 false), .agg [.sl [(S6 ({ data := #[(97 : UInt8)] })), .sl (u8s d) (List.length d) .any, (I6 (↑(List.length d) : Int))] 1 .any, (I6 room), (I6 (armI n (i + 1))), (B6 false)]] ++ UU 41, [⟨[.sl [(S6 ({ data := #[(97 : UInt8)] })), .sl (u8s d) (List.length d) .any, (I6 (↑(List.length d) : Int))] 1 .any, (I6 room), (I6 (armI n (i + 1))), (B6 false)], 4, .fresh⟩, ⟨[.sl [(S6 ({ data := #[(97 : UInt8)] })), .sl (u8s d) (List.length d) .any, (I6 (↑(List.length d) : Int))] 1 .any, (I6 room), (I6 (armI n (i + 1))), (B6 false)], 4, .fresh⟩]⟩ (by kernel_rfl) ⟨(by omega), (by omega), trivial⟩ ?_
              refine AWP.reg ?_
              refine DerQ.run (TT 3) ⟨[U6, (I6 n), .sl (u8s d) (List.length d) .any, U6, U6, U6, (B6 false), .ptr 0 0, U6, U6, (I6 (IntKind.wrap IntKind.i64 ((↑i : Int) + 1))), .ptr 1 0] ++ UU 45 ++ [(I6 (↑i : Int)), (I6 (IntKind.wrap IntKind.i64 ((↑i : Int) + 1)))] ++ UU 11 ++ [(B6 false), .agg [.sl [(S6 ({ data := #[(97 : UInt8)] })), .sl (u8s d) (List.length d) .any, (I6 (↑(List.length d) : Int))] 1 .any, (I6 room), (I6 (armI n (i + 1))), (B6 false)]] ++ UU 41, [⟨[.sl [(S6 ({ data := #[(97 : UInt8)] })), .sl (u8s d) (List.length d) .any, (I6 (↑(List.length d) : Int))] 1 .any, (I6 room), (I6 (armI n (i + 1))), (B6 false)], 4, .fresh⟩, ⟨[.sl [(S6 ({ data := #[(97 : UInt8)] })), .sl (u8s d) (List.length d) .any, (I6 (↑(List.length d) : Int))] 1 .any, (I6 room), (I6 (armI n (i + 1))), (B6 false)], 4, .fresh⟩]⟩ (by kernel_rfl) (tt 3) ?_
              rw [IntWalk.i64_in ((↑i : Int) + 1) (by omega)]
              (exact ⟨_, by omega, _, Weak.cut 1 (by kernel_rfl) (by kernel_rfl) (by simp) (by simp [ltAll, AVal.refLt]) (by simp [dataAll, AVal.data]), i + 1, rfl, by omega, rfl⟩; done)
            · have h6' := of_decide_eq_false h6
              refine AWP.exit ?_
              refine SQ (PI 2 (4 ≤ 4 ∧ True ∧ True) ⟨(by omega), trivial, trivial⟩ ?_)
              refine CD ((fun i : Nat => putB d hd room hr n i) i (by omega)) ?_
              refine RI (True ∧ True ∧ True ∧ True ∧ 4 ≤ 4 ∧ True ∧ True) ⟨trivial, trivial, trivial, trivial, (by omega), trivial, trivial⟩ ?_
              refine AWP.seq (KL ([2, 7, 10, 56] ++ NN 72 6) ⟨[U6, (I6 n), U6, U6, U6, U6, (B6 false)] ++ UU 6 ++ [.ptr 1 0, (I6 220)] ++ UU 98, [⟨[.sl (fisc (filA d i)) (List.length (filA d i)) .any, (I6 room), (I6 (armI n i)), (B6 false)], 4, .fresh⟩, ⟨[.sl (fisc (filA d i)) (List.length (filA d i)) .any, (I6 room), (I6 (armI n i)), (B6 true)], 4, .fresh⟩]⟩ ?_)
              refine AWP.reg (PI 1 (4 ≤ 4 ∧ True) ⟨(by omega), trivial⟩ ?_)
              refine CD ((fun (i : Nat) (h9 : (i : Int) ≤ n) => readA d hd room hr (armI n i) (by rw [armI_eq]; omega) i) i (by omega)) ?_
              refine RT 5 ?_
              refine AWP.seq (KL ([15] ++ NN 78 5) ⟨[U6, (I6 n), U6, U6, U6, U6, (B6 false)] ++ UU 6 ++ [.ptr 1 0, (I6 220), U6, (I6 220)] ++ UU 96, [⟨[.sl (fisc (filA d i)) (List.length (filA d i)) .any, (I6 room), (I6 (armI n i)), (B6 false)], 4, .fresh⟩, ⟨[.sl (fisc (filA d i)) (List.length (filA d i)) .any, (I6 room), (I6 (armI n i)), (B6 true)], 4, .fresh⟩]⟩ ?_)
              refine AWP.reg (PI 19 (True ∧ True ∧ True ∧ True ∧ True ∧ True ∧ True ∧ True ∧ 3 < 4 ∧ True ∧ True ∧ True ∧ 0 < 4 ∧ True ∧ True ∧ True ∧ True ∧ True ∧ True ∧ True) ⟨trivial, trivial, trivial, trivial, trivial, trivial, trivial, trivial, (by omega), trivial, trivial, trivial, (by omega), trivial, trivial, trivial, trivial, trivial, trivial, trivial⟩ ?_)
              refine DerQ.to ⟨[U6, (I6 n), U6, U6, U6, U6, (B6 false)] ++ UU 6 ++ [.ptr 1 0, (I6 220), U6, (I6 220)] ++ UU 66 ++ [(I6 220), (B6 true), (B6 true), (I6 220), (B6 true), (B6 true), (B6 true), .ptr 1 3, (B6 true), (B6 true), (B6 true), .ptr 1 0, .sl (fisc (filA d i)) (List.length (filA d i)) .any, (I6 (↑(List.length (filA d i)) : Int)), (I6 n), (I6 (if 1 < n then 1 else n)), (B6 ((↑(List.length (filA d i)) : Int) == if 1 < n then 1 else n)), (B6 ((↑(List.length (filA d i)) : Int) == if 1 < n then 1 else n)), (B6 ((↑(List.length (filA d i)) : Int) == if 1 < n then 1 else n))] ++ UU 11, [⟨[.sl (fisc (filA d i)) (List.length (filA d i)) .any, (I6 room), (I6 (armI n i)), (B6 false)], 4, .fresh⟩, ⟨[.sl (fisc (filA d i)) (List.length (filA d i)) .any, (I6 room), (I6 (armI n i)), (B6 true)], 4, .fresh⟩]⟩ (by kernel_rfl) ?_
              cases h7 : ((↑(List.length (filA d i)) : Int) == if 1 < n then 1 else n)
              · have h7' := ne_of_beq_false h7
                exfalso; omega
              · have h7' := eq_of_beq h7
                refine PI 1 (4 ≤ 4 ∧ True) ⟨(by omega), trivial⟩ ?_
                refine CD ((fun (i : Nat) (h9 : (i : Int) ≤ n) => crashA d hd room hr (armI n i) (by rw [armI_eq]; omega) i) i (by omega)) ?_
                refine PI 7 (0 < 4 ∧ True ∧ True ∧ True ∧ True ∧ True ∧ True ∧ True) ⟨(by omega), trivial, trivial, trivial, trivial, trivial, trivial, trivial⟩ ?_
                refine DerQ.to ⟨[U6, (I6 n), U6, U6, U6, U6, (B6 false)] ++ UU 6 ++ [.ptr 1 0, (I6 220), U6, (I6 220)] ++ UU 66 ++ [(I6 220), (B6 true), (B6 true), (I6 220), (B6 true), (B6 true), (B6 true), .ptr 1 3, (B6 true), (B6 true), (B6 true), .ptr 1 0, .sl (fisc (filA d i)) (List.length (filA d i)) .any, (I6 (↑(List.length (filA d i)) : Int)), (I6 n), (I6 (if 1 < n then 1 else n)), (B6 true), (B6 true), (B6 true), .agg [.sl (fisc (filA d i)) (List.length (filA d i)) .any, (I6 room), (I6 (armI n i)), (B6 true)], .agg [.sl (fisc (crL (filA d i) 0 (List.length (filA d i)))) (List.length (filA d i)) .any, (I6 room), (I6 (-1)), (B6 false)], .sl (fisc (crL (filA d i) 0 (List.length (filA d i)))) (List.length (filA d i)) .any, (I6 (↑(List.length (filA d i)) : Int)), (I6 n), (I6 (if 1 < n then 1 else n)), (B6 ((↑(List.length (filA d i)) : Int) == if 1 < n then 1 else n)), (B6 ((↑(List.length (filA d i)) : Int) == if 1 < n then 1 else n)), (B6 ((↑(List.length (filA d i)) : Int) == if 1 < n then 1 else n)), U6, .undef], [⟨[.sl (fisc (filA d i)) (List.length (filA d i)) .any, (I6 room), (I6 (armI n i)), (B6 false)], 4, .fresh⟩, ⟨[.sl (fisc (filA d i)) (List.length (filA d i)) .any, (I6 room), (I6 (armI n i)), (B6 true)], 4, .fresh⟩]⟩ (by kernel_rfl) ?_
                rw [h7]
                refine CD (heads) ?_
                refine RT 2 ?_
                refine AWP.ret FA
        · have h4' := of_decide_eq_true h4
          exfalso; omega
      · have h3' := of_decide_eq_true h3
        exfalso; omega
    · have h2' := of_decide_eq_true h2
      exfalso; omega
  · have h1' := of_decide_eq_true h1
    exfalso; omega
theorem diskCalls (room n : Int) (d : List Int) : EvD Try.prog 10 [.sc (.int .i64 room), .sc (.int .i64 n), .sl (u8s d) d.length .any] (.sc (.bool true)) := by
  by_cases h : (100 ≤ room ∧ room ≤ 2000) ∧ (0 ≤ n ∧ n ≤ 20) ∧ d.length ≤ 20
  · exact calls_ok d h.2.2 room h.1 n h.2.1
  · exact calls_no room n d h
end Go.Dk
