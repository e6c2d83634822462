/- Walks and laws. -/
import Derived.Test.YtikllaiggklljaaDk14
set_option maxRecDepth 100000
set_option linter.unusedSimpArgs false
set_option linter.unusedVariables false
namespace Go.Dk
open Go Go.Abs Go.Proofs
/-- A disk's state: its room stays. -/
structure DkS where
  l : List FileD
  arm : Int
  dead : Bool
def ag (room : Int) (s : DkS) : AVal := .agg [.sl (fisc s.l) s.l.length .any, .sc (.int .i64 room), .sc (.int .i64 s.arm), .sc (.bool s.dead)]
def goodS (room : Int) (s : DkS) : Prop := okD room s.arm s.l ∧ s.arm ≤ 9223372036854775807 ∧ ∀ f ∈ s.l, Bts f.d
def StepR (room : Int) (s : DkS) (x : ActD) (p : DkS × Int) : Prop :=
  EvD Try.prog 46 [ag room s, .agg (acc x)] (.tup [ag room p.1, .sc (.int .i64 p.2)]) ∧ goodS room p.1 ∧ (p.2 ≠ 0 → p.2 ≠ 220 → p.1 = s)
theorem put_mem {l : List FileD} {f g : FileD} (h : g ∈ putL l f) : g = f ∨ g ∈ l := by
  unfold putL at h
  split at h
  · exact (List.mem_or_eq_of_mem_set h).symm
  · unfold insD at h
    rcases List.mem_append.1 h with h | h
    · exact .inr (List.mem_of_mem_take h)
    · rcases List.mem_cons.1 h with h | h
      · exact .inl h
      · exact .inr (List.mem_of_mem_drop h)
theorem Bts_app {a b : List Int} (ha : Bts a) (hb : Bts b) : Bts (a ++ b) := fun x hx => (List.mem_append.1 hx).elim (ha x) (hb x)
theorem Bts_take {a : List Int} (ha : Bts a) (n : Nat) : Bts (a.take n) := fun x hx => ha x (List.mem_of_mem_take hx)
theorem armN_bd {arm : Int} (h : -1 ≤ arm ∧ arm ≤ 9223372036854775807) : -1 ≤ armN arm ∧ armN arm ≤ 9223372036854775807 := by unfold armN; split <;> omega
theorem delD_len (l : List FileD) (k : Nat) (h : k < l.length) : (delD l k).length = l.length - 1 := by unfold delD; rw [List.length_append, List.length_take, List.length_drop]; omega
theorem synL_len (l : List FileD) (k : Nat) : (synL l k).length = l.length := by rw [synL, List.length_set]
section
variable {room : Int} (hr : room ≤ 10000) {l : List FileD} {arm : Int} {dead : Bool} (hg : goodS room ⟨l, arm, dead⟩) (x : ActD) (hxd : x.d.length ≤ 6000) (hxb : Bts x.d) (hxn : -9223372036854775808 ≤ x.n ∧ x.n ≤ 9223372036854775807)
include hg
theorem hlen : l.length ≤ 64 := hg.1.2.2.2.1
theorem hbd : -1 ≤ arm ∧ arm ≤ 9223372036854775807 := ⟨hg.1.2.2.1, hg.2.1⟩
theorem good_put (f : FileD) (hf : goodF f) (hfb : Bts f.d) (hp : roomP room l f.nm (f.d.length : Int)) (arm' : Int) (dead' : Bool) (ha : -1 ≤ arm' ∧ arm' ≤ 9223372036854775807) : goodS room ⟨putL l f, arm', dead'⟩ :=
  ⟨okD_put hg.1 ha.1 f hf hp, ha.2, fun g hgm => (put_mem hgm).elim (fun e => by subst e; exact hfb) (hg.2.2 g)⟩
theorem good_arm (arm' : Int) (dead' : Bool) (ha : -1 ≤ arm' ∧ arm' ≤ 9223372036854775807) : goodS room ⟨l, arm', dead'⟩ := ⟨okD_arm hg.1 ha.1, ha.2, hg.2.2⟩
include hxd hxb in
theorem step0 (hk : x.kind = 0) : ∃ p, StepR room ⟨l, arm, dead⟩ x p := by
  have hl := hlen hg
  have ho : okD room arm l := hg.1
  have hb := hbd hg
  by_cases he : askE room arm dead l x.nm = 0
  · obtain ⟨_, hd, hn⟩ := askE_ok.1 he
    subst hd
    by_cases hp : roomP room l x.nm (x.d.length : Int)
    · have hf : goodF ⟨x.nm, x.d, (x.d.length : Int)⟩ := ⟨hn, by show (0 : Int) ≤ (x.d.length : Int); omega, Int.le_refl _⟩
      by_cases h0 : arm = 0
      · subst h0
        exact ⟨(⟨l, 0, true⟩, 220), do0 l room 0 false x hk _ _ _ _ _ _ (put_out l room (by omega) x.nm x.d (by omega) ho he hp), good_arm hg _ _ (by omega), fun _ h => absurd rfl h⟩
      · exact ⟨(⟨putL l ⟨x.nm, x.d, (x.d.length : Int)⟩, armN arm, false⟩, 0), do0 l room arm false x hk _ _ _ _ _ _ (put_ok l room arm false (by omega) x.nm x.d (by omega) ho he hp hb.2 h0), good_put hg _ hf hxb hp _ _ (armN_bd hb), fun h _ => absurd rfl h⟩
    · exact ⟨(⟨l, arm, false⟩, 4), do0 l room arm false x hk _ _ _ _ _ _ (put_full l room arm false (by omega) x.nm x.d (by omega) ho he hp), hg, fun _ _ => rfl⟩
  · exact ⟨(⟨l, arm, dead⟩, askE room arm dead l x.nm), do0 l room arm dead x hk _ _ _ _ _ _ (put_ask l room arm dead (by omega) x.nm x.d (by omega) _ he rfl), hg, fun _ _ => rfl⟩
include hxd hxb in
theorem step1 (hk : x.kind = 1) : ∃ p, StepR room ⟨l, arm, dead⟩ x p := by
  have hl := hlen hg
  have ho : okD room arm l := hg.1
  have hb := hbd hg
  by_cases he : askE room arm dead l x.nm = 0
  · obtain ⟨_, hd, hn⟩ := askE_ok.1 he
    subst hd
    by_cases hh : has l x.nm
    · have hm := getD_mem hh.1
      have hgf := okD_mem ho _ hm
      by_cases hp : roomP room l x.nm (((l.getD (low l x.nm) fi0).d.length : Int) + (x.d.length : Int))
      · have hf : goodF ⟨x.nm, (l.getD (low l x.nm) fi0).d ++ x.d, (l.getD (low l x.nm) fi0).sf⟩ := ⟨hn, hgf.2.1, by show (l.getD (low l x.nm) fi0).sf ≤ ((((l.getD (low l x.nm) fi0).d ++ x.d).length : Nat) : Int); rw [List.length_append]; have := hgf.2.2; omega⟩
        have hp' : roomP room l x.nm ((((l.getD (low l x.nm) fi0).d ++ x.d).length : Nat) : Int) := by rw [List.length_append]; exact hp
        have hfb : Bts ((l.getD (low l x.nm) fi0).d ++ x.d) := Bts_app (hg.2.2 _ hm) hxb
        by_cases h0 : arm = 0
        · subst h0
          exact ⟨(⟨_, 0, true⟩, 220), do1 l room 0 false x hk _ _ _ _ _ _ (app_out_h l room false (by omega) x.nm x.d (by omega) ho he hh hp), good_put hg _ hf hfb hp' _ _ (by omega), fun _ h => absurd rfl h⟩
        · exact ⟨(⟨_, armN arm, false⟩, 0), do1 l room arm false x hk _ _ _ _ _ _ (app_ok_h l room arm false (by omega) x.nm x.d (by omega) ho he hh hp hb h0), good_put hg _ hf hfb hp' _ _ (armN_bd hb), fun h _ => absurd rfl h⟩
      · exact ⟨(⟨l, arm, false⟩, 4), do1 l room arm false x hk _ _ _ _ _ _ (app_full_h l room arm false (by omega) x.nm x.d (by omega) ho he hh hp), hg, fun _ _ => rfl⟩
    · by_cases hp : roomP room l x.nm ((x.d.length : Int))
      · have hf : goodF ⟨x.nm, x.d, 0⟩ := ⟨hn, Int.le_refl _, by show (0 : Int) ≤ (x.d.length : Int); omega⟩
        by_cases h0 : arm = 0
        · subst h0
          exact ⟨(⟨_, 0, true⟩, 220), do1 l room 0 false x hk _ _ _ _ _ _ (app_out_n l room false (by omega) x.nm x.d (by omega) ho he hh hp), good_put hg ⟨x.nm, x.d, 0⟩ hf hxb hp _ _ (by omega), fun _ h => absurd rfl h⟩
        · exact ⟨(⟨_, armN arm, false⟩, 0), do1 l room arm false x hk _ _ _ _ _ _ (app_ok_n l room arm false (by omega) x.nm x.d (by omega) ho he hh hp hb h0), good_put hg ⟨x.nm, x.d, 0⟩ hf hxb hp _ _ (armN_bd hb), fun h _ => absurd rfl h⟩
      · exact ⟨(⟨l, arm, false⟩, 4), do1 l room arm false x hk _ _ _ _ _ _ (app_full_n l room arm false (by omega) x.nm x.d (by omega) ho he hh hp), hg, fun _ _ => rfl⟩
  · exact ⟨(⟨l, arm, dead⟩, askE room arm dead l x.nm), do1 l room arm dead x hk _ _ _ _ _ _ (app_ask l room arm dead (by omega) x.nm x.d (by omega) _ he rfl), hg, fun _ _ => rfl⟩
theorem step2 (hk : x.kind = 2) : ∃ p, StepR room ⟨l, arm, dead⟩ x p := by
  have hl := hlen hg
  have ho : okD room arm l := hg.1
  have hb := hbd hg
  by_cases he : askE room arm dead l x.nm = 0
  · obtain ⟨_, hd, hn⟩ := askE_ok.1 he
    subst hd
    by_cases hh : has l x.nm
    · by_cases h0 : arm = 0
      · subst h0
        exact ⟨(⟨l, 0, true⟩, 220), do2 l room 0 false x hk _ _ _ _ _ _ (sync_out l room false (by omega) x.nm ho he hh), good_arm hg _ _ (by omega), fun _ h => absurd rfl h⟩
      · refine ⟨(⟨synL l (low l x.nm), armN arm, false⟩, 0), ?_, ⟨okD_syn ho (armN_bd hb).1 hh.1, (armN_bd hb).2, fun g hgm => ?_⟩, fun h _ => absurd rfl h⟩
        · have h3 := do2 l room arm false x hk _ _ _ _ _ _ (sync_ok l room arm false (by omega) x.nm ho he hh hb h0)
          show EvD Try.prog 46 [.agg [.sl (fisc l) l.length .any, _, _, _], _] (.tup [.agg [.sl (fisc (synL l (low l x.nm))) (synL l (low l x.nm)).length .any, _, _, _], _])
          rw [synL_len]; exact h3
        · rcases List.mem_or_eq_of_mem_set hgm with h | h
          · exact hg.2.2 g h
          · subst h; show Bts (l.getD (low l x.nm) fi0).d; exact hg.2.2 _ (getD_mem hh.1)
    · exact ⟨(⟨l, arm, false⟩, 7), do2 l room arm false x hk _ _ _ _ _ _ (sync_none l room arm false (by omega) x.nm ho he hh), hg, fun _ _ => rfl⟩
  · exact ⟨(⟨l, arm, dead⟩, askE room arm dead l x.nm), do2 l room arm dead x hk _ _ _ _ _ _ (sync_ask l room arm dead (by omega) x.nm _ he rfl), hg, fun _ _ => rfl⟩
theorem step3 (hk : x.kind = 3) : ∃ p, StepR room ⟨l, arm, dead⟩ x p := by
  have hl := hlen hg
  have ho : okD room arm l := hg.1
  have hb := hbd hg
  by_cases he : askE room arm dead l x.nm = 0
  · obtain ⟨_, hd, hn⟩ := askE_ok.1 he
    subst hd
    by_cases hh : has l x.nm
    · by_cases h0 : arm = 0
      · subst h0
        exact ⟨(⟨l, 0, true⟩, 220), do3 l room 0 false x hk _ _ _ _ _ _ (drop_out l room false (by omega) x.nm ho he hh), good_arm hg _ _ (by omega), fun _ h => absurd rfl h⟩
      · refine ⟨(⟨delD l (low l x.nm), armN arm, false⟩, 0), ?_, ⟨okD_del ho (armN_bd hb).1 hh.1, (armN_bd hb).2, fun g hgm => ?_⟩, fun h _ => absurd rfl h⟩
        · have h3 := do3 l room arm false x hk _ _ _ _ _ _ (drop_ok l room arm false (by omega) x.nm ho he hh hb h0)
          show EvD Try.prog 46 [.agg [.sl (fisc l) l.length .any, _, _, _], _] (.tup [.agg [.sl (fisc (delD l (low l x.nm))) (delD l (low l x.nm)).length .any, _, _, _], _])
          rw [delD_len _ _ hh.1]; exact h3
        · rcases List.mem_append.1 hgm with h | h
          · exact hg.2.2 g (List.mem_of_mem_take h)
          · exact hg.2.2 g (List.mem_of_mem_drop h)
    · exact ⟨(⟨l, arm, false⟩, 7), do3 l room arm false x hk _ _ _ _ _ _ (drop_none l room arm false (by omega) x.nm ho he hh), hg, fun _ _ => rfl⟩
  · exact ⟨(⟨l, arm, dead⟩, askE room arm dead l x.nm), do3 l room arm dead x hk _ _ _ _ _ _ (drop_ask l room arm dead (by omega) x.nm _ he rfl), hg, fun _ _ => rfl⟩
include hxn in
theorem step4 (hk : x.kind = 4) : ∃ p, StepR room ⟨l, arm, dead⟩ x p := by
  have hl := hlen hg
  have ho : okD room arm l := hg.1
  by_cases hd : dead = true
  · subst hd
    exact ⟨(⟨l, arm, true⟩, 220), do4 l room arm true x hk _ _ _ _ _ _ (arm_dead l room arm true (by omega) x.n ho rfl), hg, fun _ h => absurd rfl h⟩
  · have hd : dead = false := by simpa using hd
    subst hd
    by_cases hn : x.n < -1
    · exact ⟨(⟨l, arm, false⟩, 2), do4 l room arm false x hk _ _ _ _ _ _ (arm_arg l room arm false (by omega) x.n ho rfl hn), hg, fun _ _ => rfl⟩
    · exact ⟨(⟨l, x.n, false⟩, 0), do4 l room arm false x hk _ _ _ _ _ _ (arm_ok l room arm false (by omega) x.n ho rfl (by omega)), good_arm hg _ _ (by omega), fun h _ => absurd rfl h⟩
theorem good_cr (keep : Int) (dead' : Bool) : goodS room ⟨crL l keep l.length, -1, dead'⟩ :=
  ⟨okD_cr hg.1 (by show (-1 : Int) ≤ -1; omega) keep, by show (-1 : Int) ≤ _; omega, fun g hgm => by
    have hgm : g ∈ crL l keep l.length := hgm
    rw [crL_all] at hgm
    obtain ⟨f, hf, rfl⟩ := List.mem_map.1 hgm
    exact Bts_take (hg.2.2 f hf) _⟩
theorem step5 (hk : x.kind = 5) : ∃ p, StepR room ⟨l, arm, dead⟩ x p := by
  have hl := hlen hg
  have ho : okD room arm l := hg.1
  refine ⟨(⟨crL l x.n l.length, -1, false⟩, 0), ?_, good_cr hg x.n false, fun h _ => absurd rfl h⟩
  have h3 := do5 l room arm dead x hk _ _ _ _ _ (crash_ok l room arm dead (by omega) x.n ho)
  show EvD Try.prog 46 [.agg [.sl (fisc l) l.length .any, _, _, _], _] (.tup [.agg [.sl (fisc (crL l x.n l.length)) (crL l x.n l.length).length .any, _, _, _], _])
  rw [crL_len]; exact h3
include hxd hxb hxn in
theorem step_ex : ∃ p, StepR room ⟨l, arm, dead⟩ x p := by
  by_cases h0 : x.kind = 0
  · exact step0 hg x hxd hxb h0
  by_cases h1 : x.kind = 1
  · exact step1 hg x hxd hxb h1
  by_cases h2 : x.kind = 2
  · exact step2 hg x h2
  by_cases h3 : x.kind = 3
  · exact step3 hg x h3
  by_cases h4 : x.kind = 4
  · exact step4 hg x hxn h4
  by_cases h5 : x.kind = 5
  · exact step5 hg x h5
  · exact ⟨(⟨l, arm, dead⟩, 0), do6 l room arm dead x ⟨h0, h1, h2, h3, h4, h5⟩, hg, fun h _ => absurd rfl h⟩
end
end Go.Dk
