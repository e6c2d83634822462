/- Library: an abstract machine over the model, part 23. -/
import Derived.Test.YtmcjdeiicbgmhabAbs22
set_option linter.unusedVariables false
set_option linter.unusedSimpArgs false
namespace Go.Abs
open Go

mutual
/-- Whether a slice is nil is forgotten. -/
def AVal.anyA : AVal → AVal
  | .sc v => .sc v
  | .sl c n _ => .sl c n .any
  | .agg cs => .agg (anyAll cs)
  | .tup cs => .tup (anyAll cs)
  | .dptr cs => .dptr cs
  | .fn f cs => .fn f cs
  | .ifc t v => .ifc t v
  | .ptr id o => .ptr id o
  | .row id o n => .row id o n
  | .mp id => .mp id
  | .undef => .undef
def anyAll : List AVal → List AVal
  | [] => []
  | x :: r => x.anyA :: anyAll r
end
theorem anyAll_length (l : List AVal) : (anyAll l).length = l.length := by
  induction l with
  | nil => rfl
  | cons x l ih => simp [anyAll, ih]
theorem anyAll_getD (l : List AVal) (i : Nat) : (anyAll l).getD i .undef = (l.getD i .undef).anyA := by
  induction l generalizing i with
  | nil => simp [anyAll, AVal.anyA]
  | cons x l ih => cases i with
    | zero => simp [anyAll]
    | succ i => simpa [anyAll] using ih i
theorem V.sl_any {E : Env} {c : List AVal} {n : Nat} {k : SlK} {v : Value} (h : V E (.sl c n k) v) : V E (.sl c n .any) v := by
  generalize hx : AVal.sl c n k = x at h
  cases h <;> simp at hx
  · obtain ⟨rfl, rfl, rfl⟩ := hx; exact .slnil _ (by simp)
  · obtain ⟨rfl, rfl, rfl⟩ := hx
    exact .sl [] 0 .any _ _ 0 (fun _ => Go.undef) (.inl rfl) (Nat.le_refl _) rfl (fun i hi => by simp at hi) (fun i hi => by simp at hi)
  · rename_i b o cap vs hk hn hd hv hm
    obtain ⟨rfl, rfl, rfl⟩ := hx
    exact .sl _ _ .any b o cap vs (.inl rfl) hn hd hv hm
theorem V.anyA {E : Env} {x : AVal} {v : Value} (h : V E x v) : V E x.anyA v := by
  induction h with
  | slnil k hk => exact V.sl_any (.slnil k hk)
  | slz b o => exact V.sl_any (.slz b o)
  | sl cells n k b o cap vs hk hn hd hv hm ih => exact V.sl_any (.sl cells n k b o cap vs hk hn hd hv hm)
  | agg cells vs hl hv ih => exact .agg _ vs (by rw [anyAll_length]; exact hl) fun i hi => by rw [anyAll_getD]; exact ih i (by rwa [anyAll_length] at hi)
  | tup cells vs hl hv ih => exact .tup _ vs (by rw [anyAll_length]; exact hl) fun i hi => by rw [anyAll_getD]; exact ih i (by rwa [anyAll_length] at hi)
  | undef v => exact .undef v
  | sc v h => exact .sc v h
  | ptr i off r1 b hr1 hs1 hm => exact .ptr i off r1 b hr1 hs1 hm
  | ptrLost i off r1 v hr1 hs1 => exact .ptrLost i off r1 v hr1 hs1
  | dptr cells b o vs hd hv hm ih => exact .dptr cells b o vs hd hv hm
  | rowF i off n b cap r1 hr1 hs1 hm hn ho hc => exact .rowF i off n b cap r1 hr1 hs1 hm hn ho hc
  | rowV i r1 base hr1 hs1 => exact .rowV i r1 base hr1 hs1
  | rowG i off n b o cap r1 vs hr1 hs1 hn ho hd1 hv hm he ih => exact .rowG i off n b o cap r1 vs hr1 hs1 hn ho hd1 hv hm he
  | fn f cap vs hl hv ih => exact .fn f cap vs hl hv
  | ifc t x v h ih => exact .ifc t x v h
  | mp i r1 b hr1 hs1 hm => exact .mp i r1 b hr1 hs1 hm
theorem Shrink.anyA (N : Nat) (rows : List Row) (r : AVal) : Shrink N rows r rows r.anyA := fun X m w v h1 h2 hN => ⟨m, h1, h2.anyA, hN, Evo.refl _ _⟩

/-- All rows that are new and that may become data, one by one; what is asked of them. -/
def frzQ : List Nat → List Row → AVal → Option (Prop × List Row × AVal)
  | [], rows, x => some (True, rows, x)
  | id :: l, rows, x => match rows[id]? with
    | some r => match r.st with
      | .fresh => match frzQ l (frzRows id r rows) (x.frz id r) with
        | some (c, p) => some (dataAll r.cells = true ∧ c, p)
        | none => none
      | .grown => match frzQ l (frzRows id r rows) (x.frz id r) with
        | some (c, p) => some (dataAll r.cells = true ∧ c, p)
        | none => none
      | _ => none
    | none => none
theorem frzQ_spec {N : Nat} : ∀ {l : List Nat} {rows rows' : List Row} {x x' : AVal} {c : Prop}, frzQ l rows x = some (c, rows', x') → c → Shrink N rows x rows' x'
  | [], rows, rows', x, x', c, h, hc => by simp [frzQ] at h; obtain ⟨_, rfl, rfl⟩ := h; exact Shrink.refl _ _ _
  | id :: l, rows, rows', x, x', c, h, hc => by
    simp only [frzQ] at h
    split at h
    · rename_i r hr
      split at h
      · rename_i hs
        split at h
        · rename_i c2 p h2
          simp only [Option.some.injEq, Prod.mk.injEq] at h
          obtain ⟨rfl, rfl⟩ := h
          exact (Shrink.frz hr (.inl hs) hc.1).trans (frzQ_spec h2 hc.2)
        · simp at h
      · rename_i hs
        split at h
        · rename_i c2 p h2
          simp only [Option.some.injEq, Prod.mk.injEq] at h
          obtain ⟨rfl, rfl⟩ := h
          exact (Shrink.frz hr (.inr hs) hc.1).trans (frzQ_spec h2 hc.2)
        · simp at h
      · simp at h
    · simp at h
/-- New rows that the result needs become data; all the others go; nobody knows what is nil. -/
theorem Shrink.dataK {rows : List Row} {r1 r : AVal} (l : List Nat) (c : Prop) (r2 : AVal) (h : (frzQ l rows r1).map (fun p => (p.1, p.2.2)) = some (c, r2)) (hc : c) (he : r2.anyA = r) (hd : r.data = true) : Shrink 0 rows r1 [] r := by
  cases h2 : frzQ l rows r1 with
  | none => simp [h2] at h
  | some p =>
    simp [h2] at h
    obtain ⟨h3, h4⟩ := h
    have := frzQ_spec (N := 0) (c := p.1) (rows' := p.2.1) (x' := p.2.2) h2 (by rw [h3]; exact hc)
    rw [h4] at this
    exact (this.trans (Shrink.anyA 0 _ _)).trans (Shrink.all he (by rw [← he] at hd; exact he ▸ hd))

/-- A slice of which nobody knows whether it is nil. -/
theorem VL.split {E : Env} {pre post : List AVal} {cells : List AVal} {n : Nat} {vs : List Value} (h : VL E (pre ++ .sl cells n .any :: post) vs) :
    (cells = [] ∧ n = 0 ∧ VL E (pre ++ .sl [] 0 .nil :: post) vs) ∨ VL E (pre ++ .sl cells n .nn :: post) vs := by
  have hp : (pre ++ AVal.sl cells n .any :: post).getD pre.length .undef = .sl cells n .any := by simp [List.getD_eq_getElem?_getD]
  have hlen := h.1
  have h0 := h.2 pre.length (by simp)
  rw [hp] at h0
  have other : ∀ (y : AVal), V E y (vs.getD pre.length Go.undef) → VL E (pre ++ y :: post) vs := by
    intro y hy
    refine ⟨by rw [← hlen]; simp, fun i hi => ?_⟩
    by_cases he : i = pre.length
    · subst he
      have : (pre ++ y :: post).getD pre.length .undef = y := by simp [List.getD_eq_getElem?_getD]
      rw [this]; exact hy
    · have e : (pre ++ y :: post).getD i .undef = (pre ++ AVal.sl cells n .any :: post).getD i .undef := by
        rcases Nat.lt_or_ge i pre.length with h' | h'
        · simp [List.getD_eq_getElem?_getD, List.getElem?_append_left h']
        · obtain ⟨j, rfl⟩ : ∃ j, i = pre.length + (j + 1) := ⟨i - pre.length - 1, by omega⟩
          simp [List.getD_eq_getElem?_getD, List.getElem?_append_right]
      rw [e]; exact h.2 i (by simpa using hi)
  generalize hx : AVal.sl cells n .any = x at h0
  generalize hv : vs.getD pre.length Go.undef = v at h0
  cases h0 <;> simp at hx
  · obtain ⟨rfl, rfl, rfl⟩ := hx
    exact .inl ⟨rfl, rfl, other _ (by rw [hv]; exact .slnil _ (by simp))⟩
  · rename_i b o cap vs' hk hn hd hv' hm
    obtain ⟨rfl, rfl, rfl⟩ := hx
    exact .inr (other _ (by rw [hv]; exact .sl _ _ .nn b o cap vs' (.inr rfl) hn hd hv' hm))
theorem EvF.split {P : Program} {f : FuncId} (pre : List AVal) {post : List AVal} {cells : List AVal} {n : Nat} {rows rows' : List Row} {r : AVal}
    (h0 : cells = [] → n = 0 → EvF P f (pre ++ .sl [] 0 .nil :: post) rows r rows') (h1 : EvF P f (pre ++ .sl cells n .nn :: post) rows r rows') : EvF P f (pre ++ .sl cells n .any :: post) rows r rows' := by
  intro X m w vs hr hvl
  rcases VL.split hvl with ⟨a, b, c⟩ | c
  · exact h0 a b X m w vs hr c
  · exact h1 X m w vs hr c
theorem EvD.split {P : Program} {f : FuncId} (pre : List AVal) {post : List AVal} {cells : List AVal} {n : Nat} {r : AVal}
    (h0 : cells = [] → n = 0 → EvD P f (pre ++ .sl [] 0 .nil :: post) r) (h1 : EvD P f (pre ++ .sl cells n .nn :: post) r) : EvD P f (pre ++ .sl cells n .any :: post) r :=
  fun rows => EvF.split pre (fun a b => h0 a b rows) (h1 rows)
theorem VL.anyAll {E : Env} {xs : List AVal} {vs : List Value} (h : VL E xs vs) : VL E (anyAll xs) vs := ⟨by rw [anyAll_length]; exact h.1, fun i hi => by rw [anyAll_getD]; exact (h.2 i (by rwa [anyAll_length] at hi)).anyA⟩
/-- What holds whatever is nil holds. -/
theorem EvD.any {P : Program} {f : FuncId} {args args' : List AVal} {r : AVal} (h : EvD P f args r) (he : Abs.anyAll args' = args) : EvD P f args' r := by
  subst he
  exact fun rows X m w vs hr hvl => h rows X m w vs hr hvl.anyAll
theorem dataAll_u8s (xs : List Int) : dataAll (u8s xs) = true := by
  rw [dataAll_iff]
  intro i hi
  rw [u8s_length] at hi
  rw [u8s_getD xs i hi]; rfl
theorem dataAll_append (a b : List AVal) : dataAll (a ++ b) = (dataAll a && dataAll b) := by
  induction a with
  | nil => simp [dataAll]
  | cons x a ih => simp [dataAll, ih, Bool.and_assoc]
end Go.Abs
namespace Go.Abs
open Go
theorem DerQ.callE {P : Program} {ops : Array Oper} {o : Oper} {l : List Oper} {st : St} {K : St → Prop} {f : FuncId} {args : List AVal} {r : AVal} (he : EvD P f args r) (args' : List AVal) (st1 : St)
    (h : wantA ops o st.regs = some true ∧ callA P o (ev st.regs) = some (f, args') ∧ anyAll args' = args ∧ st.put o.dst r st.rows = st1) (hk : DerQ P ops l st1 K) : DerQ P ops (o :: l) st K :=
  DerQ.callD (he.any h.2.2.1) st1 ⟨h.1, h.2.1, h.2.2.2⟩ hk
theorem DerX.callE {F : Oper → Bool} {P : Program} {ops : Array Oper} {R : List Row} {o : Oper} {l : List Oper} {st : St} {K : St → Prop} {f : FuncId} {args : List AVal} {r : AVal} (he : EvD P f args r) (args' : List AVal) (st1 : St)
    (h : wantA ops o st.regs = some true ∧ callA P o (ev st.regs) = some (f, args') ∧ anyAll args' = args ∧ st.put o.dst r st.rows = st1) (hk : DerX P F ops R l st1 K) : DerX P F ops R (o :: l) st K :=
  DerX.callD (he.any h.2.2.1) st1 ⟨h.1, h.2.1, h.2.2.2⟩ hk
end Go.Abs
