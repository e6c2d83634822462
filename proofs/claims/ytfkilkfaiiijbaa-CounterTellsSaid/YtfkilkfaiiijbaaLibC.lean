/- Library: an abstract machine over the model, part C. -/
import Derived.Deep.RegionLaw
import Derived.Test.YtfkilkfaiiijbaaLibB
set_option linter.unusedVariables false
set_option linter.unusedSimpArgs false
namespace Go.Abs
open Go
theorem V.rowF_inv {E : Env} {id off n : Nat} {v : Value} {r : Row} (h : V E (.row id off n) v) (hr : E.rows[id]? = some r) (hs : r.st = .fresh) :
    (∃ b cap, v = .slice (some ⟨b, off, none⟩) n cap ∧ E.m id = some b ∧ n ≤ cap ∧ off + n * r.esz ≤ r.cells.length ∧ ∀ i, i < cap * r.esz → (E.w.cell? ⟨b, off + i, none⟩).isSome = true) ∨
    (∃ base, v = .slice base 0 0 ∧ off = 0 ∧ n = 0 ∧ E.m id = none) := by
  generalize hx : AVal.row id off n = x at h
  cases h <;> simp at hx
  · rename_i b cap r2 hr2 hs2 hm hn ho hc
    obtain ⟨rfl, rfl, rfl⟩ := hx
    rw [hr] at hr2; cases hr2
    exact .inl ⟨b, cap, rfl, hm, hn, ho, hc⟩
  · rename_i r2 base hr2 hs2
    obtain ⟨rfl, rfl, rfl⟩ := hx
    rw [hr] at hr2; cases hr2
    rcases hs2 with h | h | h
    · simp [hs] at h
    · exact .inr ⟨base, rfl, rfl, rfl, h.2⟩
    · simp [hs] at h
  · rename_i b o cap r2 vs hr2 hs2 hn ho hd2 hv hm he
    obtain ⟨rfl, rfl, rfl⟩ := hx
    rw [hr] at hr2; cases hr2
    rcases hs2 with h | h <;> simp [hs] at h
  · rename_i r2 hr2 hs2 h02 hv2
    obtain ⟨rfl, rfl, rfl⟩ := hx
    rw [hr] at hr2; cases hr2
    simp [hs] at hs2
theorem ins_getD {α : Type} (l x : List α) (a j : Nat) (d : α) (ha : a ≤ l.length) : (l.take a ++ x ++ l.drop a).getD j d = if j < a then l.getD j d else if j < a + x.length then x.getD (j - a) d else l.getD (j - x.length) d := by
  simp only [List.getD_eq_getElem?_getD, List.append_assoc]
  have h1 : (l.take a).length = a := by rw [List.length_take]; omega
  by_cases h : j < a
  · rw [if_pos h, List.getElem?_append_left (by omega), List.getElem?_take, if_pos h]
  · rw [if_neg h, List.getElem?_append_right (by omega), h1]
    by_cases h2 : j < a + x.length
    · rw [if_pos h2, List.getElem?_append_left (by omega)]
    · rw [if_neg h2, List.getElem?_append_right (by omega), List.getElem?_drop]
      congr 2; omega
theorem V.one_of {E : Env} {x : AVal} {v : Value} (h : V E x v) (h1 : x.one = true) (hd : x.data = true) : v.oneCell' = true :=
  V.oneCell h h1 (fun id off e => by subst e; simp [AVal.data] at hd)
theorem getD_mem {l : List AVal} (h : dataAll l = true) {j : Nat} (hj : j < l.length) : (l.getD j .undef).data = true := (dataAll_iff l).1 h j hj
theorem dataAll_ins {l x : List AVal} (hl : dataAll l = true) (hx : dataAll x = true) (a : Nat) : dataAll (l.take a ++ x ++ l.drop a) = true := by
  rw [dataAll_append, dataAll_append, dataAll_take _ hl, hx, dataAll_drop _ hl]; rfl
theorem shape_of_cell {w : World} {b o : Nat} {v : Value} (h : w.cell? ⟨b, o, none⟩ = some v) : ∃ t k, w.shape? b = some (t, k) ∧ k ≠ 0 := by
  simp only [World.cell?] at h
  cases hb : w.heap[b]? with
  | none => rw [hb] at h; simp at h
  | some ob =>
    rw [hb] at h
    cases ob with
    | cells c e fr =>
      refine ⟨e, c.size, by simp [World.shape?, hb], fun h0 => ?_⟩
      have : c = #[] := Array.eq_empty_of_size_eq_zero h0
      subst this
      simp at h
    | _ => simp at h
theorem InsRaw.ev {P : Program} {f TS TE K B : Nat} (h : InsRaw P f TS TE K B) (hK : 0 < K) (hB : 0 < B ∧ B ≤ 1000) {rows : List Row} {id n i : Nat} {cells xs : List AVal} {k : SlK} (hr : rows[id]? = some ⟨cells, K, .fresh⟩) (hl : cells.length = n * K)
    (hd : dataAll cells = true) (ho : ∀ j, j < cells.length → (cells.getD j .undef).one = true) (hx : xs.length = K) (hxd : dataAll xs = true) (hxo : ∀ j, j < xs.length → (xs.getD j .undef).one = true) (hi : i ≤ n) (hn : n ≤ 100000) :
    EvF P f [.row id 0 n, .sc (.int .i64 i), .sl xs 1 k] rows (.sl (cells.take (i * K) ++ xs ++ cells.drop (i * K)) (n + 1) .any) (rows.set id ⟨[], K, .dead⟩) := by
  intro X m w vs hrel hvl
  obtain ⟨hlen, hv⟩ := hvl
  match vs, hlen, hv with
  | [v0, v1, v2], _, hv =>
  have hv0 : V ⟨rows, m, w, X⟩ (.row id 0 n) v0 := hv 0 (by simp)
  have hv1 : V ⟨rows, m, w, X⟩ (.sc (.int .i64 i)) v1 := hv 1 (by simp)
  have hv2 : V ⟨rows, m, w, X⟩ (.sl xs 1 k) v2 := hv 2 (by simp)
  have e1 := hv1.sc_inv
  subst e1
  obtain ⟨vb, vo, vc, us, rfl, hvn, _, _, _, huv, hum⟩ : ∃ (vb vo vc : Nat) (us : Nat → Value), v2 = .slice (some ⟨vb, vo, none⟩) 1 vc ∧ 1 ≤ vc ∧ True ∧ True ∧ True ∧ (∀ j, j < xs.length → V ⟨rows, m, w, X⟩ (xs.getD j .undef) (us j)) ∧ (∀ j, j < xs.length → w.cell? ⟨vb, vo + j, none⟩ = some (us j) ∧ Imm ⟨rows, m, w, X⟩ vb (vo + j)) := by
    rcases hv2.sl_inv with ⟨_, h0, _⟩ | ⟨b, o, cap, us, rfl, hn, _, _, _, hvv, hmm⟩ | ⟨ad, _, h0, _⟩
    · subst h0; simp at hx; omega
    · exact ⟨b, o, cap, us, rfl, hn, trivial, trivial, trivial, hvv, hmm⟩
    · subst h0; simp at hx; omega
  have hinf : ∃ i0 z, P.info? TE = some i0 ∧ i0.zero = some z ∧ i0.size = K ∧ i0.bytes = B ∧ z.cells.size = K := by
    have h := h.inf
    cases hq : P.info? TE with
    | none => rw [hq] at h; cases h
    | some i0 =>
      rw [hq] at h
      cases hq2 : i0.zero with
      | none => simp [hq2] at h
      | some z =>
        simp [hq2] at h
        exact ⟨i0, z, rfl, hq2, h.1, h.2.1, h.2.2⟩
  obtain ⟨i0, z, hi0, hz0, hzs, hzb, hzc⟩ := hinf
  let E : Env := ⟨rows, m, w, X⟩
  have hid : id < rows.length := lt_of_get hr
  rcases Nat.lt_or_ge i n with hin | hin
  · -- in the middle
    obtain ⟨b, cap, rfl, hm, hcap, hoo, hcc⟩ : ∃ b cap, v0 = .slice (some ⟨b, 0, none⟩) n cap ∧ m id = some b ∧ n ≤ cap ∧ True ∧ ∀ j, j < cap * K → (w.cell? ⟨b, j, none⟩).isSome = true := by
      rcases hv0.rowF_inv hr rfl with ⟨b, cap, rfl, h1, h2, h3, h4⟩ | ⟨base, rfl, _, h0, _⟩
      · exact ⟨b, cap, rfl, h1, h2, trivial, fun j hj => by have := h4 j hj; rwa [Nat.zero_add] at this⟩
      · omega
    obtain ⟨c, e, hbk, hbl, hbv⟩ := hrel.block (E := E) hr (.inl rfl) hm
    have hbl : cells.length ≤ c.size := hbl
    have hblt : b < w.heap.size := lt_of_heap hbk
    let cs : List Value := c.toList.take (n * K)
    let ws : List Value := (List.range K).map us
    have hcsl : cs.length = n * K := by show (c.toList.take (n * K)).length = _; rw [List.length_take, Array.length_toList]; omega
    have hwsl : ws.length = K := by simp [ws]
    have hcsg : ∀ j, j < n * K → cs.getD j Go.undef = c.getD j Go.undef := fun j hj => by
      simp only [cs, List.getD_eq_getElem?_getD, List.getElem?_take, if_pos hj, Array.getD_eq_getD_getElem?, Array.getElem?_toList]
    have hwsg : ∀ j, j < K → ws.getD j Go.undef = us j := fun j hj => by simp [ws, List.getD_eq_getElem?_getD, hj]
    have getd : ∀ (l : List Value) (j : Nat) (v : Value), l[j]? = some v → j < l.length ∧ v = l.getD j Go.undef := fun l j v h0 => by
      rcases Nat.lt_or_ge j l.length with h1 | h1
      · exact ⟨h1, by rw [List.getD_eq_getElem?_getD, h0]; rfl⟩
      · rw [List.getElem?_eq_none h1] at h0; cases h0
    have hcs : ∀ (j : Nat) (v : Value), cs[j]? = some v → w.cell? ⟨b, j, none⟩ = some v := fun j v h0 => by
      obtain ⟨h1, rfl⟩ := getd _ _ _ h0
      rw [hcsl] at h1
      rw [hcsg j h1]
      exact cell_getD hbk (by omega)
    have hws : ∀ (j : Nat) (v : Value), ws[j]? = some v → w.cell? ⟨vb, vo + j, none⟩ = some v := fun j v h0 => by
      obtain ⟨h1, rfl⟩ := getd _ _ _ h0
      rw [hwsl] at h1
      rw [hwsg j h1]
      exact (hum j (by omega)).1
    have h1c : ∀ v ∈ cs, v.oneCell' = true := fun v h0 => by
      obtain ⟨j, hj⟩ := List.mem_iff_getElem?.1 h0
      obtain ⟨h1, rfl⟩ := getd _ _ _ hj
      rw [hcsl] at h1
      rw [hcsg j h1]
      exact V.one_of (hbv j (by show j < cells.length; omega)) (ho j (by omega)) (getD_mem hd (by omega))
    have h1v : ∀ v ∈ ws, v.oneCell' = true := fun v h0 => by
      obtain ⟨j, hj⟩ := List.mem_iff_getElem?.1 h0
      obtain ⟨h1, rfl⟩ := getd _ _ _ hj
      rw [hwsl] at h1
      rw [hwsg j h1]
      exact V.one_of (huv j (by omega)) (hxo j (by omega)) (getD_mem hxd (by omega))
    have hvb : vb ≠ b := fun e0 => by
      have := ((hum 0 (by omega)).2.2.2 id ⟨cells, K, .fresh⟩ hr (by simp) (by rw [e0]; exact hm)).1
      simp at this
    have hfz : ∀ j, w.frozen? ⟨b, j, none⟩ = false := fun j => by
      have hbk' : w.heap[b]? = some (.cells c e (0, 0)) := hbk
      simp [World.frozen?, hbk']
    obtain ⟨tA, kA, hsa, hkA⟩ := shape_of_cell (hum 0 (by omega)).1
    have hn0 : 0 < n * K := Nat.mul_pos (by omega) hK
    obtain ⟨tB, kB, hsb, hkB⟩ := shape_of_cell (w := w) (b := b) (o := 0) (cell_getD (o := 0) hbk (by omega))
    have hiK : (i + 1) * K = i * K + K := by rw [Nat.add_mul, Nat.one_mul]
    have hiK2 : i * K + K ≤ n * K := by rw [← hiK]; exact Nat.mul_le_mul_right _ (by omega)
    have hnK : (n + 1) * K = n * K + K := by rw [Nat.add_mul, Nat.one_mul]
    have hdl : (cs.drop (i * K)).length = n * K - i * K := by rw [List.length_drop, hcsl]
    -- what both roads come to
    have fin : ∀ (b' cap' : Nat) (w' : World), n + 1 ≤ cap' → w.heap.size ≤ w'.heap.size → (∀ b2, b2 < w.heap.size → m id ≠ some b2 → w'.heap[b2]? = w.heap[b2]?) → w'.os = w.os → w'.tape = w.tape → w'.output = w.output →
        b' < w'.heap.size → (∀ o, ¬ X b' o) → (∀ (i2 : Nat) (s : Row), i2 ≠ id → rows[i2]? = some s → s.st ≠ .frozen → m i2 ≠ some b') →
        (∀ j, j < (n + 1) * K → w'.cell? ⟨b', j, none⟩ = some ((cs.take (i * K) ++ ws ++ cs.drop (i * K)).getD j Go.undef)) →
        ∃ v m', Ending.returned (.slice (some ⟨b', 0, none⟩) (n + 1) cap') = Ending.returned v ∧ Rel ⟨rows.set id ⟨[], K, .dead⟩, m', w', X⟩ ∧ V ⟨rows.set id ⟨[], K, .dead⟩, m', w', X⟩ (.sl (cells.take (i * K) ++ xs ++ cells.drop (i * K)) (n + 1) .any) v ∧ rows.length ≤ (rows.set id ⟨[], K, .dead⟩).length ∧ Evo rows.length ⟨rows, m, w, X⟩ ⟨rows.set id ⟨[], K, .dead⟩, m', w', X⟩ := by
      intro b' cap' w' hcp hsz hold hos htp hout hb' hx' hf' hcell
      obtain ⟨k1, k2⟩ := dead_step (E := E) hrel hr (by simp) (by simp) (w' := w') hsz (fun b2 h2 h3 => hold b2 h2 (fun h4 => by have := h3 h4; simp at this)) hos htp hout (fun h2 => by simp at h2)
      refine ⟨_, _, rfl, k1, ?_, by simp, k2⟩
      have hcl2 : (cells.take (i * K) ++ xs ++ cells.drop (i * K)).length = (n + 1) * K := by
        simp only [List.length_append, List.length_take, List.length_drop, hl, hx]; omega
      refine V.ofBlock hcp (dataAll_ins hd hxd _) hb' hx' (fun i2 s h1 h2 h3 => ?_) (fun j => (cs.take (i * K) ++ ws ++ cs.drop (i * K)).getD j Go.undef) (fun j hj => ?_) (fun j hj => ?_)
      · rcases get_set_cases h1 with ⟨rfl, rfl, _⟩ | ⟨hne, h1'⟩
        · simp at h3
        · exact hf' i2 s hne h1' h2 (by simpa [hne] using h3)
      · rw [Nat.zero_add]; exact hcell j (by rwa [hcl2] at hj)
      · rw [hcl2] at hj
        show V _ _ ((cs.take (i * K) ++ ws ++ cs.drop (i * K)).getD j Go.undef)
        rw [ins_getD cells xs (i * K) j .undef (by omega), ins_getD cs ws (i * K) j Go.undef (by omega), hx, hwsl]
        have hV : ∀ x v, V E x v → V ⟨rows.set id ⟨[], K, .dead⟩, fun i => if i = id then none else m i, w', X⟩ x v := fun x v h => k2.val x v h h.refLt
        split
        · rw [hcsg j (by omega)]; exact hV _ _ (hbv j (by show j < cells.length; omega))
        · split
          · rw [hwsg _ (by omega)]; exact hV _ _ (huv _ (by omega))
          · rw [hcsg _ (by omega)]; exact hV _ _ (hbv _ (by show _ < cells.length; omega))
    rcases Nat.lt_or_ge cap (n + 1) with hcp | hcp
    · -- a new block
      refine (h.grow b n cap i vb vo vc cs ws w hin hcap hcp (by have : (n + 1) * B ≤ 100001 * 1000 := Nat.mul_le_mul (by omega) hB.2; omega) hvb hcsl hwsl hcs hws h1c h1v).mono ?_
      rintro e' w' ⟨G, R, hG, hR, hRt, rfl, rfl⟩
      let W1 : World := w.drew.alloc (.cells R TE)
      let W2 : World := W1.setCells w.heap.size (i * K) ws
      obtain ⟨p1, p2, p3, p4, p5⟩ := setCells_heap w.heap.size ws (i * K) W1
      obtain ⟨q1, q2, q3, q4, q5⟩ := setCells_heap w.heap.size (cs.drop (i * K)) ((i + 1) * K) W2.drew
      have hs1 : W1.heap.size = w.heap.size + 1 := by show (w.heap.push _).size = _; rw [Array.size_push]
      have hnew : ∀ j, W1.cell? ⟨w.heap.size, j, none⟩ = R[j]? := fun j => World.cell?_alloc_at (w := w.drew) R TE w.heap.size j rfl
      have hsm : ∀ j, j < (n + 1) * K → (W1.cell? ⟨w.heap.size, j, none⟩).isSome = true := fun j hj => by rw [hnew, Array.getElem?_eq_getElem (by omega)]; rfl
      refine fin _ _ _ hG ?_ ?_ ?_ ?_ ?_ ?_ ?_ ?_ ?_
      · rw [q1]; show w.heap.size ≤ W2.heap.size; rw [p1, hs1]; omega
      · intro b2 hb2 _
        rw [q2 b2 (by omega)]; show W2.heap[b2]? = _; rw [p2 b2 (by omega)]; exact alloc_old hb2
      · rw [q3]; exact p3
      · rw [q4]; exact p4
      · rw [q5]; exact p5
      · rw [q1]; show w.heap.size < W2.heap.size; rw [p1, hs1]; omega
      · intro o hx2; exact absurd (hrel.xlt _ _ hx2) (by show ¬ w.heap.size < w.heap.size; omega)
      · intro i2 s hne h1 h2 h3; exact absurd (hrel.lt (E := E) h1 h2 h3) (by show ¬ w.heap.size < w.heap.size; omega)
      · intro j hj
        rw [ins_getD cs ws (i * K) j Go.undef (by omega), hwsl]
        by_cases h1 : j < i * K
        · rw [if_pos h1, World.cell?_setCells_out _ _ _ _ _ (fun _ _ => .inl (by show j < _; omega))]
          show W2.cell? _ = _
          rw [World.cell?_setCells_out _ _ _ _ _ (fun _ _ => .inl (by show j < _; omega)), hnew]
          refine hRt j _ ?_
          rw [List.getElem?_take, if_pos h1, List.getElem?_eq_getElem (by omega), List.getD_eq_getElem?_getD, List.getElem?_eq_getElem (by omega)]; rfl
        · rw [if_neg h1]
          by_cases h2 : j < i * K + K
          · rw [if_pos h2, World.cell?_setCells_out _ _ _ _ _ (fun _ _ => .inl (by show j < _; omega))]
            show W2.cell? _ = _
            have := World.cell?_setCells_in w.heap.size ws (i * K) W1 (fun t ht => hsm _ (by omega)) (j - i * K) (by omega)
            rw [show i * K + (j - i * K) = j by omega] at this
            rw [this, List.getD_eq_getElem?_getD, List.getElem?_eq_getElem (by omega)]; rfl
          · rw [if_neg h2]
            have hs2 : ∀ t, t < (n + 1) * K → (W2.drew.cell? ⟨w.heap.size, t, none⟩).isSome = true := fun t ht => Go.Proofs.isSome_setCells w.heap.size ws (i * K) W1 (fun t ht => hsm _ (by omega)) t (hsm t ht)
            have := World.cell?_setCells_in w.heap.size (cs.drop (i * K)) ((i + 1) * K) W2.drew (fun t ht => hs2 _ (by omega)) (j - (i + 1) * K) (by omega)
            rw [show (i + 1) * K + (j - (i + 1) * K) = j by omega] at this
            rw [this, List.getElem_drop, List.getD_eq_getElem?_getD, List.getElem?_eq_getElem (by omega)]
            simp only [Option.getD_some]
            congr 2; omega
    · refine (h.room b n cap i vb vo vc cs ws w hin hcp (by omega) hvb hcsl hwsl hcs (fun j hj => hcc j (Nat.lt_of_lt_of_le hj (Nat.mul_le_mul_right _ hcp))) hfz hws h1c h1v tA tB kA kB hsa hsb hkA hkB).mono ?_
      rintro e' w' ⟨rfl, rfl⟩
      let W1 : World := w.drew.setCells b ((i + 1) * K) (cs.drop (i * K))
      obtain ⟨p1, p2, p3, p4, p5⟩ := setCells_heap b (cs.drop (i * K)) ((i + 1) * K) w.drew
      obtain ⟨q1, q2, q3, q4, q5⟩ := setCells_heap b ws (i * K) W1
      have hsm : ∀ j, j < (n + 1) * K → (w.drew.cell? ⟨b, j, none⟩).isSome = true := fun j hj => hcc j (Nat.lt_of_lt_of_le hj (Nat.mul_le_mul_right _ hcp))
      have hsm1 : ∀ j, j < (n + 1) * K → (W1.cell? ⟨b, j, none⟩).isSome = true := fun j hj => Go.Proofs.isSome_setCells b _ _ _ (fun t ht => hsm _ (by omega)) _ (hsm j hj)
      refine fin _ _ _ hcp ?_ ?_ ?_ ?_ ?_ ?_ ?_ ?_ ?_
      · rw [q1, p1]; exact Nat.le_refl _
      · intro b2 hb2 hne
        have : b2 ≠ b := fun e0 => hne (by rw [e0]; exact hm)
        rw [q2 b2 this, p2 b2 this]; rfl
      · rw [q3]; exact p3
      · rw [q4]; exact p4
      · rw [q5]; exact p5
      · rw [q1, p1]; exact hblt
      · intro o; exact hrel.xr id _ b hr (by simp) hm o
      · intro i2 s hne h1 h2 h3; exact hne (hrel.inj i2 id s _ b h1 hr h2 (by simp) h3 hm)
      · intro j hj
        rw [ins_getD cs ws (i * K) j Go.undef (by omega), hwsl]
        by_cases h1 : j < i * K
        · rw [if_pos h1, World.cell?_setCells_out _ _ _ _ _ (fun _ _ => .inl (by show j < _; omega)), World.cell?_setCells_out _ _ _ _ _ (fun _ _ => .inl (by show j < _; omega))]
          refine hcs j _ ?_
          rw [List.getD_eq_getElem?_getD, List.getElem?_eq_getElem (by omega)]; rfl
        · rw [if_neg h1]
          by_cases h2 : j < i * K + K
          · rw [if_pos h2]
            have := World.cell?_setCells_in b ws (i * K) W1 (fun t ht => hsm1 _ (by omega)) (j - i * K) (by omega)
            rw [show i * K + (j - i * K) = j by omega] at this
            rw [this, List.getD_eq_getElem?_getD, List.getElem?_eq_getElem (by omega)]; rfl
          · rw [if_neg h2, World.cell?_setCells_out _ _ _ _ _ (fun _ _ => .inr (by show _ ≤ j; omega))]
            have := World.cell?_setCells_in b (cs.drop (i * K)) ((i + 1) * K) w.drew (fun t ht => hsm _ (by omega)) (j - (i + 1) * K) (by omega)
            rw [show (i + 1) * K + (j - (i + 1) * K) = j by omega] at this
            rw [this, List.getElem_drop, List.getD_eq_getElem?_getD, List.getElem?_eq_getElem (by omega)]
            simp only [Option.getD_some]
            congr 2; omega
  · -- at the end
    have hie : i = n := by omega
    subst hie
    obtain ⟨sz, rfl⟩ : ∃ sz, K = sz + 1 := ⟨K - 1, by omega⟩
    have ha : appendA P #[TS, TS] (.row id 0 i) (.sl xs 1 k) rows = some (xs.length = 1 * (sz + 1) ∧ (sz + 1) = sz + 1 ∧ i * (sz + 1) = cells.length ∧ i + 1 ≤ 1073741824 ∧ dataAll (cells ++ xs) = true ∧ ∀ j, j < xs.length → (xs.getD j .undef).one = true, .row id 0 (i + 1), rows.set id ⟨cells ++ xs, sz + 1, .grown⟩) := by
      simp only [appendA, List.getElem?_toArray, List.getElem?_cons_zero, List.getElem?_cons_succ, h.und, hi0, hzs, hz0]
      rw [if_neg (by rw [hzb, hzc]; omega)]
      simp [srcA, h.und, hr]
    have hdx : dataAll (cells ++ xs) = true := by rw [dataAll_append, hd, hxd]; rfl
    obtain ⟨q, w', m', hrun, k1, k2, _, k3⟩ := append_spec (ty := TS) ha ⟨by omega, rfl, hl.symm, by omega, hdx, hxo⟩ hrel hv0 hv2
    have hgo : ∃ base cap, v0 = .slice base i cap ∧ i ≤ cap ∧ (base = none → cap = 0) := by
      rcases hv0.rowF_inv hr rfl with ⟨b, cap, rfl, h1, h2, h3, h4⟩ | ⟨base, rfl, _, rfl, _⟩
      · exact ⟨_, cap, rfl, h2, fun h => by cases h⟩
      · exact ⟨base, 0, rfl, Nat.le_refl _, fun _ => rfl⟩
    obtain ⟨base, cap, rfl, hic, hnil⟩ := hgo
    refine (h.fin base _ i cap vc w w' q hic hnil hrun).mono ?_
    rintro e' W ⟨rfl, rfl⟩
    let r1 : Row := ⟨cells ++ xs, sz + 1, .grown⟩
    have hr1 : (rows.set id r1)[id]? = some r1 := get_set_same hr
    obtain ⟨f1, f2⟩ := freeze_step (E := ⟨rows.set id r1, m', W, X⟩) k1 hr1 (.inr rfl) hdx
    have hr2 : ((rows.set id r1).set id { r1 with st := .frozen })[id]? = some { r1 with st := .frozen } := get_set_same hr1
    have hq := V.rowAt (f2.val _ _ k2 k2.refLt) hr2 rfl hdx
    obtain ⟨d1, d2⟩ := dead_step (E := ⟨(rows.set id r1).set id { r1 with st := .frozen }, m', W, X⟩) f1 hr2 (by simp) (by simp) (w' := W) (Nat.le_refl _) (fun _ _ _ => rfl) rfl rfl rfl (fun h => by simp at h)
    have e2 : ((rows.set id r1).set id { r1 with st := .frozen }).set id ⟨[], sz + 1, .dead⟩ = rows.set id ⟨[], sz + 1, .dead⟩ := by simp [List.set_set]
    have d1' : Rel ⟨((rows.set id r1).set id { r1 with st := .frozen }).set id ⟨[], sz + 1, .dead⟩, _, W, X⟩ := d1
    have d2' : Evo _ _ ⟨((rows.set id r1).set id { r1 with st := .frozen }).set id ⟨[], sz + 1, .dead⟩, _, W, X⟩ := d2
    have hq2 := d2'.val _ _ hq hq.refLt
    rw [e2] at d1' d2' hq2
    refine ⟨q, _, rfl, d1', ?_, by simp, (k3.trans (f2.mono (by simp))).trans (d2'.mono (by simp))⟩
    have e3 : (List.take ((i + 1) * (sz + 1)) (List.drop 0 (cells ++ xs))) = cells.take (i * (sz + 1)) ++ xs ++ cells.drop (i * (sz + 1)) := by
      have h1 : (i + 1) * (sz + 1) = i * (sz + 1) + (sz + 1) := by rw [Nat.add_mul, Nat.one_mul]
      rw [List.drop_zero, List.take_of_length_le (by rw [List.length_append]; omega), List.take_of_length_le (by omega), List.drop_of_length_le (by omega), List.append_nil]
    rw [← e3]
    exact hq2
/-- slices.Insert of one element into a fresh row. -/
theorem InsRaw.evK {P : Program} {f TS TE K B : Nat} (h : InsRaw P f TS TE K B) (hK : 0 < K) (hB : 0 < B ∧ B ≤ 1000) {n i : Nat} {cells xs out : List AVal} (hl : cells.length = n * K)
    (hd : dataAll cells = true) (ho : ∀ j, j < cells.length → (cells.getD j .undef).one = true) (hx : xs.length = K) (hxd : dataAll xs = true) (hxo : ∀ j, j < xs.length → (xs.getD j .undef).one = true) (hi : i ≤ n) (hn : n ≤ 100000) (hout : out = cells.take (i * K) ++ xs ++ cells.drop (i * K)) :
    EvK P f [.row 0 0 n, .sc (.int .i64 i), .sl xs 1 .any] ⟨cells, K, .fresh⟩ (.sl out (n + 1) .any) ⟨[], K, .dead⟩ := fun rows id hr => by
  subst hout
  exact h.ev hK hB hr hl hd ho hx hxd hxo hi hn
end Go.Abs

set_option linter.unusedVariables false
set_option linter.unusedSimpArgs false
namespace Go.Abs
open Go
end Go.Abs

set_option linter.unusedVariables false
set_option linter.unusedSimpArgs false
namespace Go.Abs
open Go
/-- What slices.Delete of one element does to the memory. -/
structure DelRaw (P : Program) (f TS TE K : Nat) : Prop where
  run : ∀ (b n c i : Nat) (cs : List Value) (w : World) (hi : i < n) (hnc : n ≤ c) (hn9 : n ≤ 1000000000) (hcl : cs.length = n * K)
    (hcs : ∀ j v, cs[j]? = some v → w.cell? ⟨b, j, none⟩ = some v) (hfz : ∀ j, w.frozen? ⟨b, j, none⟩ = false) (h1c : ∀ v ∈ cs, v.oneCell' = true),
    Calls P f #[.slice (some ⟨b, 0, none⟩) n c, .int .i64 i, .int .i64 ((i : Int) + 1)] w fun e w' =>
      e = .returned (.slice (some ⟨b, 0, none⟩) (n - 1) c) ∧ ∃ zs : List Value, zs.length = K ∧ w' = (w.drew.setCells b (i * K) (cs.drop ((i + 1) * K))).setCells b ((n - 1) * K) zs
end Go.Abs
