/- Library: an abstract machine over the model, part 6. -/
import Derived.Test.YtmcjdeiicbgmhabAbs5
set_option linter.unusedVariables false
set_option linter.unusedSimpArgs false
namespace Go.Abs
open Go

/-! ### Calls -/
def enterable (P : Program) (f : FuncId) : Bool :=
  match P.funcs[f]? with
  | some fn => fn.body.isSome && !(fn.name == "runtime.NumGoroutine")
  | none => false
theorem run_callFunc {P : Program} {f : FuncId} (h : enterable P f = true) (args : Array Value) (w : World) : (callFunc f args).run P w = .ok (.enter f args) w := by
  unfold enterable at h
  cases hf : P.funcs[f]? with
  | none => simp [hf] at h
  | some fn =>
    simp only [hf, Bool.and_eq_true, Bool.not_eq_true', Option.isSome_iff_exists] at h
    obtain ⟨⟨c, hc⟩, hn⟩ := h
    simp only [callFunc, Sem.run_bind, run_program, Result.andThen_ok, hf]
    rw [if_neg (by simpa using hn), if_neg (by simp [hc])]
    rfl

theorem getD_append_vals {xs : List AVal} {vs : List Value} {ys : List AVal} {us : List Value} {E : Env} (h1 : VL E xs vs) (h2 : VL E ys us) : VL E (xs ++ ys) (vs ++ us) := by
  refine ⟨by simp [h1.1, h2.1], fun i hi => ?_⟩
  rcases Nat.lt_or_ge i xs.length with h | h
  · rw [List.getD_eq_getElem?_getD, List.getD_eq_getElem?_getD, List.getElem?_append_left h, List.getElem?_append_left (by rw [← h1.1]; exact h)]
    exact h1.2 i h
  · rw [List.getD_eq_getElem?_getD, List.getD_eq_getElem?_getD, List.getElem?_append_right h, List.getElem?_append_right (by rw [← h1.1]; exact h), h1.1]
    have := h2.2 (i - vs.length) (by rw [← h1.1]; simp at hi; omega)
    exact this

theorem VL.map {E : Env} {ρ : Operand → AVal} {τ : Operand → Value} : ∀ (l : List Operand), (∀ x ∈ l, V E (ρ x) (τ x)) → VL E (l.map ρ) (l.map τ)
  | [], _ => ⟨rfl, fun i hi => by simp at hi⟩
  | x :: l, h => by
    have ih := VL.map l (fun y hy => h y (by simp [hy]))
    refine ⟨by simp, fun i hi => ?_⟩
    cases i with
    | zero => simpa using h x (by simp)
    | succ i => simpa using ih.2 i (by simpa using hi)

theorem mem_args {c : Call} {x : Operand} (h : x ∈ c.args.toList) : x ∈ (Op.call c).operands.toList := by
  simp only [Op.operands, Call.operands, Array.toList_append, List.mem_append]; exact .inr h

/-- A call of a function value. -/
theorem OpS.call {P : Program} {o : Oper} {c : Call} {fop : Operand} {f : FuncId} {cap args : List AVal} {ρ : Operand → AVal} {rows rows' : List Row} {r : AVal}
    (ho : o.op = .call c) (hc : c.callee = .value fop) (hf : ρ fop = .fn f cap) (ha : c.args.toList.map ρ ++ cap = args) (he : enterable P f = true) (h : EvF P f args rows r rows') : OpS P o ρ rows r rows' := by
  intro X m w a hrel hv K Q hK
  have hfv : V ⟨rows, m, w, X⟩ (ρ fop) (a.eval fop) := hv fop (by rw [ho]; simp [Op.operands, Call.operands, hc])
  rw [hf] at hfv
  obtain ⟨us, hu, hl, hus⟩ := hfv.fn_inv
  have hal : VL ⟨rows, m, w, X⟩ (c.args.toList.map ρ) (c.args.toList.map a.eval) := VL.map _ fun x hx => hv x (by rw [ho]; exact mem_args hx)
  have hall := getD_append_vals hal ⟨hl, hus⟩
  rw [ha] at hall
  have hrun : (execOp a.eval o).run P w = .ok (.enter f (c.args.toList.map a.eval ++ us).toArray) w := by
    simp only [execOp, ho, resolve, hc, Deferred.ofValue, hu, Sem.run_bind, Sem.run_pure, Result.andThen_ok, invoke]
    rw [run_callFunc he]
    simp
  unfold Oper.wp
  rw [hrun, Oper.upon_enter]
  refine (h X m w _ hrel hall).mono ?_
  rintro e w' ⟨v, m', rfl, h1, h2, h3, h4⟩
  exact hK v m' w' h1 h2 h3 h4

/-! ### A region that draws its order -/
inductive DerG (P : Program) (F : Oper → Bool) (ops : Array Oper) (G : List Row → Prop) : List Nat → St → St → Prop
  | nil (st : St) : DerG P F ops G [] st st
  | quiet (i : Nat) (rest : List Nat) (st st' : St) (o : Oper) (res : AVal) (ho : ops[i]? = some o) (hw : wantA ops o st.regs = some true)
      (hs : ∀ rows, G rows → OpS P o (ev st.regs) rows res rows) (h : DerG P F ops G rest (st.put o.dst res st.rows) st') : DerG P F ops G (i :: rest) st st'
  | eff (i : Nat) (rest : List Nat) (st st' : St) (o : Oper) (res : AVal) (rows' : List Row) (ho : ops[i]? = some o) (he : F o = true) (hw : wantA ops o st.regs = some true)
      (hs : OpS P o (ev st.regs) st.rows res rows') (hg : G rows') (h : DerG P F ops G rest (st.put o.dst res rows') st') : DerG P F ops G (i :: rest) st st'
  | skip (i : Nat) (rest : List Nat) (st st' : St) (o : Oper) (ho : ops[i]? = some o) (hw : wantA ops o st.regs = some false)
      (h : DerG P F ops G rest (st.put o.dst (.tup []) st.rows) st') : DerG P F ops G (i :: rest) st st'

def namesOf (ops : Array Oper) (o : Oper) : List Tmp :=
  (o.op.operands.toList.filterMap fun | .tmp t => some t | _ => none) ++
  (match o.guard with
   | some (j, _) => ((ops[j]?).bind (·.dst)).toList
   | none => [])
/-- Two operations that touch nothing in common. -/
def apartB (F : Oper → Bool) (ops : Array Oper) (x y : Oper) : Bool :=
  (match x.dst with | some d => !(namesOf ops y).contains d && y.dst != some d | none => true) &&
  (match y.dst with | some d => !(namesOf ops x).contains d | none => true) && !(F x && F y)

theorem regs_put (st : St) (dst : Option Tmp) (x : AVal) (rows : List Row) : (st.put dst x rows).regs = (match dst with | some d => st.regs.set d x | none => st.regs) := by
  cases dst <;> rfl
theorem rows_put (st : St) (dst : Option Tmp) (x : AVal) (rows : List Row) : (st.put dst x rows).rows = rows := by
  cases dst <;> rfl
theorem getD_put {st : St} {dst : Option Tmp} {x : AVal} {rows : List Row} {t : Tmp} (h : dst ≠ some t) : (st.put dst x rows).regs.getD t .undef = st.regs.getD t .undef := by
  cases dst with
  | none => rfl
  | some d =>
    have : d ≠ t := fun e => h (e ▸ rfl)
    simp [St.put, List.getD_eq_getElem?_getD, List.getElem?_set, this]
theorem mem_namesOf {ops : Array Oper} {o : Oper} {t : Tmp} (h : Operand.tmp t ∈ o.op.operands.toList) : t ∈ namesOf ops o := by
  simp only [namesOf, List.mem_append, List.mem_filterMap]
  exact .inl ⟨_, h, rfl⟩
theorem ev_put {ops : Array Oper} {o : Oper} {st : St} {dst : Option Tmp} {x : AVal} {rows : List Row} (h : ∀ d, dst = some d → d ∉ namesOf ops o) :
    ∀ y ∈ o.op.operands.toList, ev (st.put dst x rows).regs y = ev st.regs y := by
  intro y hy
  cases y with
  | tmp t => exact getD_put (fun e => h t e (mem_namesOf hy))
  | _ => rfl
theorem wantA_put {ops : Array Oper} {o : Oper} {st : St} {dst : Option Tmp} {x : AVal} {rows : List Row} (h : ∀ d, dst = some d → d ∉ namesOf ops o) :
    wantA ops o (st.put dst x rows).regs = wantA ops o st.regs := by
  unfold wantA
  split
  · rfl
  · rename_i j want hg
    cases hd : (ops[j]?).bind (·.dst) with
    | none => rfl
    | some t =>
      simp only []
      rw [getD_put (fun e => h t e (by simp only [namesOf, hg, hd]; simp))]
theorem put_put {st : St} {d1 d2 : Option Tmp} {x1 x2 : AVal} {r1 r2 : List Row} (h : ∀ d, d1 = some d → d2 ≠ some d) (r3 : List Row) :
    (st.put d1 x1 r1).put d2 x2 r2 = (st.put d2 x2 r3).put d1 x1 r2 := by
  cases d1 with
  | none => cases d2 <;> rfl
  | some a =>
    cases d2 with
    | none => rfl
    | some b =>
      have : a ≠ b := fun e => h a rfl (e ▸ rfl)
      simp only [St.put]
      rw [List.set_comm _ _ this]

theorem apartB_spec {F : Oper → Bool} {ops : Array Oper} {x y : Oper} (h : apartB F ops x y = true) :
    (∀ d, x.dst = some d → d ∉ namesOf ops y) ∧ (∀ d, x.dst = some d → y.dst ≠ some d) ∧ (∀ d, y.dst = some d → d ∉ namesOf ops x) ∧ ¬ (F x = true ∧ F y = true) := by
  simp only [apartB, Bool.and_eq_true] at h
  obtain ⟨⟨h1, h2⟩, h3⟩ := h
  refine ⟨fun d hd => ?_, fun d hd => ?_, fun d hd => ?_, ?_⟩
  · simp [hd] at h1; exact h1.1
  · simp [hd] at h1; exact h1.2
  · simp [hd] at h2; exact h2
  · rintro ⟨k1, k2⟩; simp [k1, k2] at h3

theorem DerG.swap {F : Oper → Bool} {P : Program} {ops : Array Oper} {G : List Row → Prop} {i j : Nat} {rest : List Nat} {st st' : St} {x y : Oper} (hx : ops[i]? = some x) (hy : ops[j]? = some y) (hap : apartB F ops x y = true)
    (hG : G st.rows) (h : DerG P F ops G (i :: j :: rest) st st') : DerG P F ops G (j :: i :: rest) st st' := by
  obtain ⟨a1, a2, a3, a4⟩ := apartB_spec hap
  cases h with
  | quiet _ _ _ _ o res ho hw hs h =>
    rw [hx] at ho; cases ho
    cases h with
    | quiet _ _ _ _ o2 res2 ho2 hw2 hs2 h =>
      rw [hy] at ho2; cases ho2
      rw [wantA_put a1] at hw2
      refine .quiet j _ _ _ y res2 hy hw2 (fun rows hg => (hs2 rows hg).congr fun z hz => (ev_put a1 z hz).symm) ?_
      refine .quiet i _ _ _ x res hx (by rw [wantA_put a3]; exact hw) (fun rows hg => (hs rows hg).congr fun z hz => ev_put a3 z hz) ?_
      rw [rows_put] at h ⊢
      rw [← put_put a2 st.rows]; exact h
    | eff _ _ _ _ o2 res2 rows2 ho2 he2 hw2 hs2 hg2 h =>
      rw [hy] at ho2; cases ho2
      rw [wantA_put a1] at hw2
      rw [rows_put] at hs2
      refine .eff j _ _ _ y res2 rows2 hy he2 hw2 (hs2.congr fun z hz => (ev_put a1 z hz).symm) hg2 ?_
      refine .quiet i _ _ _ x res hx (by rw [wantA_put a3]; exact hw) (fun rows hg => (hs rows hg).congr fun z hz => ev_put a3 z hz) ?_
      rw [rows_put]
      rw [← put_put a2 rows2]; exact h
    | skip _ _ _ _ o2 ho2 hw2 h =>
      rw [hy] at ho2; cases ho2
      rw [wantA_put a1] at hw2
      refine .skip j _ _ _ y hy hw2 ?_
      refine .quiet i _ _ _ x res hx (by rw [wantA_put a3]; exact hw) (fun rows hg => (hs rows hg).congr fun z hz => ev_put a3 z hz) ?_
      rw [rows_put] at h ⊢
      rw [← put_put a2 st.rows]; exact h
  | eff _ _ _ _ o res rows' ho he hw hs hg h =>
    rw [hx] at ho; cases ho
    cases h with
    | quiet _ _ _ _ o2 res2 ho2 hw2 hs2 h =>
      rw [hy] at ho2; cases ho2
      rw [wantA_put a1] at hw2
      refine .quiet j _ _ _ y res2 hy hw2 (fun rows hg => (hs2 rows hg).congr fun z hz => (ev_put a1 z hz).symm) ?_
      refine .eff i _ _ _ x res rows' hx he (by rw [wantA_put a3]; exact hw) (by rw [rows_put]; exact hs.congr fun z hz => ev_put a3 z hz) hg ?_
      rw [rows_put] at h
      rw [← put_put a2 st.rows]; exact h
    | eff _ _ _ _ o2 res2 rows2 ho2 he2 hw2 hs2 hg2 h =>
      rw [hy] at ho2; cases ho2
      exact absurd ⟨he, he2⟩ a4
    | skip _ _ _ _ o2 ho2 hw2 h =>
      rw [hy] at ho2; cases ho2
      rw [wantA_put a1] at hw2
      refine .skip j _ _ _ y hy hw2 ?_
      refine .eff i _ _ _ x res rows' hx he (by rw [wantA_put a3]; exact hw) (by rw [rows_put]; exact hs.congr fun z hz => ev_put a3 z hz) hg ?_
      rw [rows_put] at h
      rw [← put_put a2 st.rows]; exact h
  | skip _ _ _ _ o ho hw h =>
    rw [hx] at ho; cases ho
    cases h with
    | quiet _ _ _ _ o2 res2 ho2 hw2 hs2 h =>
      rw [hy] at ho2; cases ho2
      rw [wantA_put a1] at hw2
      refine .quiet j _ _ _ y res2 hy hw2 (fun rows hg => (hs2 rows hg).congr fun z hz => (ev_put a1 z hz).symm) ?_
      refine .skip i _ _ _ x hx (by rw [wantA_put a3]; exact hw) ?_
      rw [rows_put] at h ⊢
      rw [← put_put a2 st.rows]; exact h
    | eff _ _ _ _ o2 res2 rows2 ho2 he2 hw2 hs2 hg2 h =>
      rw [hy] at ho2; cases ho2
      rw [wantA_put a1] at hw2
      rw [rows_put] at hs2
      refine .eff j _ _ _ y res2 rows2 hy he2 hw2 (hs2.congr fun z hz => (ev_put a1 z hz).symm) hg2 ?_
      refine .skip i _ _ _ x hx (by rw [wantA_put a3]; exact hw) ?_
      rw [rows_put]
      rw [← put_put a2 rows2]; exact h
    | skip _ _ _ _ o2 ho2 hw2 h =>
      rw [hy] at ho2; cases ho2
      rw [wantA_put a1] at hw2
      refine .skip j _ _ _ y hy hw2 ?_
      refine .skip i _ _ _ x hx (by rw [wantA_put a3]; exact hw) ?_
      rw [rows_put] at h ⊢
      rw [← put_put a2 st.rows]; exact h

/-- An operation that is apart from all ahead of it may come first. -/
theorem DerG.front {F : Oper → Bool} {P : Program} {ops : Array Oper} {G : List Row → Prop} {i : Nat} {y : Oper} (hy : ops[i]? = some y) : ∀ (pre : List Nat) {post : List Nat} {st st' : St}, G st.rows →
    (∀ j ∈ pre, ∃ x, ops[j]? = some x ∧ apartB F ops x y = true) → DerG P F ops G (pre ++ i :: post) st st' → DerG P F ops G (i :: (pre ++ post)) st st'
  | [], _, _, _, _, _, h => h
  | j :: pre, post, st, st', hG, hap, h => by
    obtain ⟨x, hx, hxy⟩ := hap j (by simp)
    have hap' : ∀ k ∈ pre, ∃ x, ops[k]? = some x ∧ apartB F ops x y = true := fun k hk => hap k (by simp [hk])
    refine DerG.swap hx hy hxy hG ?_
    cases h with
    | quiet _ _ _ _ o res ho hw hs h => exact .quiet j _ _ _ o res ho hw hs (DerG.front hy pre (by rw [rows_put]; exact hG) hap' h)
    | eff _ _ _ _ o res rows' ho he hw hs hg h => exact .eff j _ _ _ o res rows' ho he hw hs hg (DerG.front hy pre (by rw [rows_put]; exact hg) hap' h)
    | skip _ _ _ _ o ho hw h => exact .skip j _ _ _ o ho hw (DerG.front hy pre (by rw [rows_put]; exact hG) hap' h)

/-- For each operation the set of those that must come ahead of it. -/
def maskOf (acc : List Nat) (o : Oper) : Nat := o.after.toList.foldl (fun s e => if Region.binds .any e then s ||| 2 ^ e.on ||| acc.getD e.on 0 else s) 0
def masks : List Oper → List Nat → List Nat
  | [], acc => acc
  | o :: r, acc => masks r (acc ++ [maskOf acc o])
def drawOk (F : Oper → Bool) (ops : List Oper) : Bool :=
  let b := masks ops []
  (List.range ops.length).all fun j => match ops[j]? with
    | none => false
    | some y => y.after.toList.all (fun e => !Region.binds .any e || decide (e.on < j)) && (List.range j).all fun i => match ops[i]? with
      | none => false
      | some x => (b.getD j 0).testBit i || apartB F ops.toArray x y

theorem maskOf_spec {acc : List Nat} {o : Oper} {i : Nat} (h : (maskOf acc o).testBit i = true) : ∃ e ∈ o.after.toList, Region.binds .any e = true ∧ (i = e.on ∨ (acc.getD e.on 0).testBit i = true) := by
  unfold maskOf at h
  have key : ∀ (l : List Edge) (s : Nat), (l.foldl (fun s e => if Region.binds .any e then s ||| 2 ^ e.on ||| acc.getD e.on 0 else s) s).testBit i = true →
      s.testBit i = true ∨ ∃ e ∈ l, Region.binds .any e = true ∧ (i = e.on ∨ (acc.getD e.on 0).testBit i = true) := by
    intro l
    induction l with
    | nil => intro s h; exact .inl h
    | cons e l ih =>
      intro s h
      rw [List.foldl_cons] at h
      rcases ih _ h with h | ⟨e', h1, h2⟩
      · split at h
        · rename_i hb
          rw [Nat.testBit_or, Nat.testBit_or, Bool.or_eq_true, Bool.or_eq_true] at h
          rcases h with (h | h) | h
          · exact .inl h
          · refine .inr ⟨e, by simp, hb, .inl ?_⟩
            rw [Nat.testBit_two_pow] at h
            exact (of_decide_eq_true h).symm
          · exact .inr ⟨e, by simp, hb, .inr h⟩
        · exact .inl h
      · exact .inr ⟨e', by simp [h1], h2⟩
  rcases key _ _ h with h | h
  · simp at h
  · exact h

theorem masks_spec : ∀ (l : List Oper) (done : List Oper) (acc : List Nat), acc.length = done.length →
    (∀ j o, done[j]? = some o → ∀ i, (acc.getD j 0).testBit i = true → ∃ e ∈ o.after.toList, Region.binds .any e = true ∧ (i = e.on ∨ (e.on < j ∧ (acc.getD e.on 0).testBit i = true))) →
    ∀ j o, (done ++ l)[j]? = some o → ∀ i, ((masks l acc).getD j 0).testBit i = true → ∃ e ∈ o.after.toList, Region.binds .any e = true ∧ (i = e.on ∨ (e.on < j ∧ ((masks l acc).getD e.on 0).testBit i = true))
  | [], done, acc, hl, h => by simpa [masks] using h
  | o :: r, done, acc, hl, h => by
    have := masks_spec r (done ++ [o]) (acc ++ [maskOf acc o]) (by simp [hl]) ?_
    · simpa [masks] using this
    · intro j o' ho' i hi
      have hjlt := lt_of_get ho'
      simp only [List.length_append, List.length_singleton] at hjlt
      have hold : ∀ k, k < done.length → (acc ++ [maskOf acc o]).getD k 0 = acc.getD k 0 := fun k hk => by
        rw [List.getD_eq_getElem?_getD, List.getD_eq_getElem?_getD, List.getElem?_append_left (by omega)]
      rcases Nat.lt_or_ge j done.length with hj | hj
      · rw [List.getElem?_append_left hj] at ho'
        rw [hold j hj] at hi
        obtain ⟨e, h1, h2, h3⟩ := h j o' ho' i hi
        refine ⟨e, h1, h2, h3.imp id fun ⟨h4, h5⟩ => ⟨h4, ?_⟩⟩
        rw [hold e.on (by omega)]; exact h5
      · have hje : j = done.length := by omega
        subst hje
        simp at ho'
        subst ho'
        have e1 : (acc ++ [maskOf acc o]).getD done.length 0 = maskOf acc o := by
          rw [List.getD_eq_getElem?_getD, ← hl]; simp
        rw [e1] at hi
        obtain ⟨e, h1, h2, h3⟩ := maskOf_spec hi
        refine ⟨e, h1, h2, h3.imp id fun h4 => ?_⟩
        have hlt : e.on < done.length := by
          rcases Nat.lt_or_ge e.on acc.length with h' | h'
          · omega
          · rw [List.getD_eq_getElem?_getD, List.getElem?_eq_none h'] at h4; simp at h4
        exact ⟨hlt, by rw [hold e.on hlt]; exact h4⟩

/-- A set that has, with each, all that must come ahead of it. -/
def Closed (ops : List Oper) (listed : Array Bool) : Prop :=
  ∀ j o, ops[j]? = some o → listed.getD j true = true → ∀ e ∈ o.after.toList, Region.binds .any e = true → listed.getD e.on false = true

theorem Closed.mask {ops : List Oper} {listed : Array Bool} (hsz : listed.size = ops.length) (h : Closed ops listed) : ∀ (n j : Nat), j ≤ n → ∀ o, ops[j]? = some o →
    (∀ e ∈ o.after.toList, Region.binds .any e = true → listed.getD e.on false = true) → ∀ i, ((masks ops []).getD j 0).testBit i = true → listed.getD i false = true
  | n, j, hjn, o, ho, hd, i, hi => by
    obtain ⟨e, h1, h2, h3⟩ := masks_spec ops [] [] rfl (fun j o h => by simp at h) j o (by simpa using ho) i hi
    rcases h3 with rfl | ⟨h4, h5⟩
    · exact hd e h1 h2
    · have hl := hd e h1 h2
      have hlt : e.on < ops.length := Nat.lt_trans h4 (lt_of_get ho)
      have hoe : ops[e.on]? = some ops[e.on] := by simp [hlt]
      match n with
      | 0 => omega
      | n + 1 =>
        exact Closed.mask hsz h n e.on (by omega) _ hoe (fun e' k1 k2 => h e.on _ hoe (by
          have : e.on < listed.size := by omega
          simpa [Array.getD, this] using hl) e' k1 k2) i h5

theorem drawOk_spec {F : Oper → Bool} {ops : List Oper} (h : drawOk F ops = true) : ∀ j y, ops[j]? = some y → (∀ e ∈ y.after.toList, Region.binds .any e = true → e.on < j) ∧
    ∀ i x, i < j → ops[i]? = some x → ((masks ops []).getD j 0).testBit i = true ∨ apartB F ops.toArray x y = true := by
  intro j y hy
  simp only [drawOk, List.all_eq_true, List.mem_range] at h
  have hj := h j (lt_of_get hy)
  rw [hy] at hj
  simp only [Bool.and_eq_true, List.all_eq_true, List.mem_range] at hj
  refine ⟨fun e he hb => ?_, fun i x hi hx => ?_⟩
  · have := hj.1 e he
    simp only [hb, Bool.not_true, Bool.false_or, decide_eq_true_eq] at this
    exact this
  · have := hj.2 i hi
    rw [hx] at this
    simpa using this

def left (n : Nat) (listed : Array Bool) : List Nat := (List.range n).filter fun i => !listed.getD i true

theorem DerG.any {F : Oper → Bool} {P : Program} {ops : List Oper} {G : List Row → Prop} (hok : drawOk F ops = true) {st' : St} : ∀ (fuel : Nat) (listed : Array Bool) (st : St), (left ops.length listed).length = fuel → listed.size = ops.length →
    Closed ops listed → G st.rows → DerG P F ops.toArray G (left ops.length listed) st st' → ∀ {X : Nat → Nat → Prop} {m : Nat → Option Nat} {w : World} {a : Act} {Q : Exit → Act → World → Prop}, RelSt X st m w a →
    (∀ m' w' a', RelSt X st' m' w' a' → st.rows.length ≤ st'.rows.length → Evo st.rows.length ⟨st.rows, m, w, X⟩ ⟨st'.rows, m', w', X⟩ → Q .normal a' w') → wpAny P .any ops.toArray Q fuel listed a w
  | 0, listed, st, hf, hsz, hcl, hG, h, X, m, w, a, Q, hr, hq => by
    have hnil : left ops.length listed = [] := List.eq_nil_of_length_eq_zero hf
    rw [hnil] at h
    refine ⟨?_, ?_⟩
    · unfold Region.ready
      rw [List.filter_eq_nil_iff]
      intro i hi
      have : ∀ i ∈ List.range ops.length, ¬ (!listed.getD i true) = true := List.filter_eq_nil_iff.1 hnil
      have := this i (by simpa using hi)
      simp only [Bool.not_eq_true, Bool.not_eq_false'] at this
      simp [this]
    · cases h
      exact hq m w a hr (Nat.le_refl _) (Evo.refl _ _)
  | fuel + 1, listed, st, hf, hsz, hcl, hG, h, X, m, w, a, Q, hr, hq => by
    have hpair : (left ops.length listed).Pairwise (· < ·) := List.Pairwise.filter _ (List.pairwise_lt_range)
    refine ⟨fun hnil => ?_, fun i hi => ?_⟩
    · exfalso
      match hL : left ops.length listed, hf with
      | i :: tl, _ =>
        have hmem : i ∈ left ops.length listed := by rw [hL]; simp
        simp only [left, List.mem_filter, List.mem_range] at hmem
        have hio : ops[i]? = some ops[i] := by simp [hmem.1]
        have hmin : ∀ k, k < i → listed.getD k false = true := by
          intro k hk
          have hks : k < listed.size := by omega
          by_cases hkl : listed.getD k true = true
          · simpa [Array.getD, hks] using hkl
          · exfalso
            have : k ∈ left ops.length listed := by
              simp only [left, List.mem_filter, List.mem_range]; exact ⟨by omega, by simpa using hkl⟩
            rw [hL] at this hpair
            rcases List.mem_cons.1 this with h1 | h1
            · omega
            · have := (List.pairwise_cons.1 hpair).1 k h1; omega
        have : i ∈ Region.ready .any ops.toArray listed := by
          unfold Region.ready
          simp only [List.mem_filter, List.mem_range, List.size_toArray]
          refine ⟨hmem.1, ?_⟩
          simp only [List.getElem?_toArray, hio, Option.map_some, Option.getD_some, Bool.and_eq_true]
          refine ⟨hmem.2, ?_⟩
          rw [Array.all_eq_true']
          intro e he
          cases hb : Region.binds .any e with
          | false => simp
          | true =>
            have := (drawOk_spec hok i _ hio).1 e (by simpa using he) hb
            simp only [Bool.not_true, Bool.false_or]
            exact hmin _ this
        rw [hnil] at this
        simp at this
    · unfold Region.ready at hi
      simp only [List.mem_filter, List.mem_range, List.size_toArray] at hi
      obtain ⟨hilt, hi⟩ := hi
      have hio : ops[i]? = some ops[i] := by simp [hilt]
      simp only [List.getElem?_toArray, hio, Option.map_some, Option.getD_some, Bool.and_eq_true] at hi
      obtain ⟨hil, hie⟩ := hi
      rw [Array.all_eq_true'] at hie
      have hmem : i ∈ left ops.length listed := by
        simp only [left, List.mem_filter, List.mem_range]; exact ⟨hilt, hil⟩
      obtain ⟨pre, post, hL⟩ := List.append_of_mem hmem
      have hdir : ∀ e ∈ ops[i].after.toList, Region.binds .any e = true → listed.getD e.on false = true := by
        intro e he hb
        have := hie e (by simpa using he)
        simpa [hb] using this
      have hpre : ∀ j ∈ pre, ∃ x, ops.toArray[j]? = some x ∧ apartB F ops.toArray x ops[i] = true := by
        intro j hj
        have hjm : j ∈ left ops.length listed := by rw [hL]; simp [hj]
        simp only [left, List.mem_filter, List.mem_range] at hjm
        have hji : j < i := by
          rw [hL] at hpair
          exact (List.pairwise_append.1 hpair).2.2 j hj i (by simp)
        have hjo : ops[j]? = some ops[j] := by simp [hjm.1]
        refine ⟨ops[j], by simp [hjo], ?_⟩
        rcases (drawOk_spec hok i _ hio).2 j _ hji hjo with h1 | h1
        · have := hcl.mask hsz i i (Nat.le_refl _) _ hio hdir j h1
          have hjs : j < listed.size := by omega
          have h2 := hjm.2
          simp [Array.getD, hjs] at this h2
          simp [this] at h2
        · exact h1
      have hfront := DerG.front (i := i) (y := ops[i]) (by simp [hio]) pre hG hpre (hL ▸ h)
      have hils : i < listed.size := by omega
      have hnext : left ops.length (listed.setIfInBounds i true) = pre ++ post := by
        have e1 : left ops.length (listed.setIfInBounds i true) = (left ops.length listed).filter (fun j => j != i) := by
          simp only [left, List.filter_filter]
          apply List.filter_congr
          intro j hj
          have hjs : j < listed.size := by simp at hj; omega
          by_cases hji : j = i
          · subst hji; simp [Array.getD, hjs]
          · have : i ≠ j := fun e => hji e.symm
            simp [Array.getD, hjs, Array.getElem_setIfInBounds, this, hji]
        rw [e1, hL]
        rw [hL] at hpair
        have hp := List.pairwise_append.1 hpair
        have hp2 := List.pairwise_cons.1 hp.2.1
        simp only [List.filter_append, List.filter_cons, bne_self_eq_false]
        have f1 : pre.filter (fun j => j != i) = pre := List.filter_eq_self.2 fun j hj => by have := hp.2.2 j hj i (by simp); simp; omega
        have f2 : post.filter (fun j => j != i) = post := List.filter_eq_self.2 fun j hj => by have := hp2.1 j hj; simp; omega
        rw [f1, f2]; simp
      have hlen : (pre ++ post).length = fuel := by
        rw [hL] at hf; simp at hf ⊢; omega
      have hcl' : Closed ops (listed.setIfInBounds i true) := by
        intro j o ho hj e he hb
        have hgrow : ∀ k, listed.getD k false = true → (listed.setIfInBounds i true).getD k false = true := by
          intro k hk
          rcases Nat.lt_or_ge k listed.size with hks | hks
          · by_cases hki : k = i
            · subst hki; simp [Array.getD, hks]
            · have : i ≠ k := fun e => hki e.symm
              simp [Array.getD, hks] at hk
              simp [Array.getD, hks, Array.getElem_setIfInBounds, this, hk]
          · simp [Array.getD, Nat.not_lt.2 hks] at hk
        apply hgrow
        by_cases hji : j = i
        · subst hji; rw [hio] at ho; cases ho; exact hdir e he hb
        · refine hcl j o ho ?_ e he hb
          have hjs : j < listed.size := by rw [hsz]; exact lt_of_get ho
          have : i ≠ j := fun e => hji e.symm
          simpa [Array.getD, hjs, Array.getElem_setIfInBounds, this] using hj
      unfold wpOp
      rw [show ops.toArray[i]? = some ops[i] by simp [hio]]
      simp only []
      cases hfront with
      | quiet _ _ _ _ o res ho hw hs h =>
        rw [show ops.toArray[i]? = some ops[i] by simp [hio]] at ho; cases ho
        rw [if_pos (wantA_spec hr hw)]
        refine .inl (hs _ hG X m w a hr.rel (fun x _ => hr.eval x) _ _ fun v m' w' h1 h2 h3 h4 => ?_)
        have hput := hr.put h1 h4 ops[i].dst h2
        refine DerG.any (G := G) hok fuel _ _ (by rw [hnext]; exact hlen) (by simpa using hsz) hcl' (by rw [rows_put]; exact hG) (by rw [hnext]; exact h) hput fun m2 w2 a2 k1 k2 k3 => ?_
        rw [rows_put] at k2 k3
        exact hq _ _ _ k1 (Nat.le_trans h3 k2) (h4.trans (k3.mono h3))
      | eff _ _ _ _ o res rows' ho he hw hs hg h =>
        rw [show ops.toArray[i]? = some ops[i] by simp [hio]] at ho; cases ho
        rw [if_pos (wantA_spec hr hw)]
        refine .inl (hs X m w a hr.rel (fun x _ => hr.eval x) _ _ fun v m' w' h1 h2 h3 h4 => ?_)
        have hput := hr.put h1 h4 ops[i].dst h2
        refine DerG.any (G := G) hok fuel _ _ (by rw [hnext]; exact hlen) (by simpa using hsz) hcl' (by rw [rows_put]; exact hg) (by rw [hnext]; exact h) hput fun m2 w2 a2 k1 k2 k3 => ?_
        rw [rows_put] at k2 k3
        exact hq _ _ _ k1 (Nat.le_trans h3 k2) (h4.trans (k3.mono h3))
      | skip _ _ _ _ o ho hw h =>
        rw [show ops.toArray[i]? = some ops[i] by simp [hio]] at ho; cases ho
        rw [if_neg (by rw [wantA_spec hr hw]; simp)]
        have hput := hr.put hr.rel (Evo.refl _ _) ops[i].dst (V.undefTup _)
        refine DerG.any (G := G) hok fuel _ _ (by rw [hnext]; exact hlen) (by simpa using hsz) hcl' (by rw [rows_put]; exact hG) (by rw [hnext]; exact h) hput fun m2 w2 a2 k1 k2 k3 => ?_
        rw [rows_put] at k2 k3
        exact hq _ _ _ k1 k2 k3

theorem AWP.draw {F : Oper → Bool} {P : Program} {N : Nat} {Q : Exit → St → Prop} {st st' : St} {id : Nat} {ops : List Oper} (hm : P.follows .mixedOrders = true) (G : List Row → Prop) (hG : G st.rows) (hok : drawOk F ops = true)
    (h : DerG P F ops.toArray G (List.range ops.length) st st') (hq : Q .normal st') : AWP P N (.region id ops.toArray true) Q st := by
  intro hN X m w a hr
  obtain ⟨hrel, hev⟩ := same_heap (E := ⟨st.rows, m, w, X⟩) hr.rel (w' := { w with drawn := w.drawn + 1 }) rfl rfl rfl rfl st.rows.length
  have hr' : RelSt X st m { w with drawn := w.drawn + 1 } a := ⟨hrel, hr.len, fun i hi => hev.val _ _ (hr.regs i hi) (hr.regs i hi).refLt, hr.defers⟩
  have hleft : left ops.length (Array.replicate ops.length false) = List.range ops.length := by
    unfold left
    rw [List.filter_eq_self]
    intro i hi
    simp at hi
    simp [Array.getD, hi]
  refine wp_region_any hm ?_
  have := DerG.any (P := P) (G := G) hok (st' := st') ops.length (Array.replicate ops.length false) st (by rw [hleft]; simp) (by simp) ?_ hG (by rw [hleft]; exact h) hr'
    (Q := fun e a' w' => ∃ st' m', Q e st' ∧ N ≤ st'.rows.length ∧ RelSt X st' m' w' a' ∧ Evo N ⟨st.rows, m, w, X⟩ ⟨st'.rows, m', w', X⟩)
    (fun m' w' a' h1 h2 h3 => ⟨st', m', hq, Nat.le_trans hN h2, h1, (hev.mono hN).trans (h3.mono hN)⟩)
  · simpa using this
  · intro j o ho hj
    have : j < ops.length := lt_of_get ho
    simp [Array.getD, this] at hj
end Go.Abs
