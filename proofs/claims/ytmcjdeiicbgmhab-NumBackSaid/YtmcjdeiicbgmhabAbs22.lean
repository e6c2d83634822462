/- Library: an abstract machine over the model, part 22. -/
import Derived.Test.YtmcjdeiicbgmhabAbs21
set_option linter.unusedVariables false
set_option linter.unusedSimpArgs false
namespace Go.Abs
open Go
/-- Numbers that are bytes. -/
def Bts (xs : List Int) : Prop := ∀ x ∈ xs, 0 ≤ x ∧ x < 256
theorem Bts.nil : Bts [] := by simp [Bts]
theorem Bts.cons {x : Int} {xs : List Int} (h0 : 0 ≤ x) (h1 : x < 256) (h : Bts xs) : Bts (x :: xs) := by
  intro y hy
  rcases List.mem_cons.1 hy with rfl | h2
  · exact ⟨h0, h1⟩
  · exact h y h2
theorem Bts.append {xs ys : List Int} (h : Bts xs) (k : Bts ys) : Bts (xs ++ ys) := fun x hx => (List.mem_append.1 hx).elim (h x) (k x)
theorem Bts.take {xs : List Int} (n : Nat) (h : Bts xs) : Bts (xs.take n) := fun x hx => h x (List.mem_of_mem_take hx)
theorem Bts.drop {xs : List Int} (n : Nat) (h : Bts xs) : Bts (xs.drop n) := fun x hx => h x (List.mem_of_mem_drop hx)
theorem Bts.get {xs : List Int} (h : Bts xs) (i : Nat) : 0 ≤ xs.getD i 0 ∧ xs.getD i 0 < 256 := by
  rcases Nat.lt_or_ge i xs.length with h' | h'
  · have e : xs.getD i 0 = xs[i] := by simp [List.getD_eq_getElem?_getD, h']
    rw [e]; exact h _ (List.getElem_mem h')
  · have e : xs.getD i 0 = 0 := by simp [List.getD_eq_getElem?_getD, h']
    rw [e]; omega
theorem u8s_length (xs : List Int) : (u8s xs).length = xs.length := by simp [u8s]
theorem u8s_take (n : Nat) (xs : List Int) : List.take n (u8s xs) = u8s (List.take n xs) := by simp [u8s]
theorem u8s_drop (n : Nat) (xs : List Int) : List.drop n (u8s xs) = u8s (List.drop n xs) := by simp [u8s]
theorem u8s_append (xs ys : List Int) : u8s xs ++ u8s ys = u8s (xs ++ ys) := by simp [u8s]
theorem u8s_isByte (xs : List Int) : ∀ i : Nat, i < (u8s xs).length → isByteA ((u8s xs).getD i .undef) = true := by
  intro i hi
  rw [u8s_length] at hi
  rw [u8s_getD xs i hi]; rfl
theorem strOf_toList (cells : List AVal) : (strOf cells).toList = cells.map byteOf1 := by
  unfold strOf; exact Go.ByteArray.toList_mk _
theorem byteOf_inj {x y : Int} (hx : 0 ≤ x ∧ x < 256) (hy : 0 ≤ y ∧ y < 256) (h : UInt8.ofNat x.toNat = UInt8.ofNat y.toNat) : x = y := by
  have h2 := congrArg UInt8.toNat h
  simp at h2
  omega
theorem strOf_inj : ∀ {xs ys : List Int}, Bts xs → Bts ys → (u8s xs).map byteOf1 = (u8s ys).map byteOf1 → xs = ys
  | [], [], _, _, _ => rfl
  | [], _ :: _, _, _, h => by simp [u8s] at h
  | _ :: _, [], _, _, h => by simp [u8s] at h
  | x :: xs, y :: ys, hx, hy, h => by
    simp only [u8s, List.map_cons, List.cons.injEq] at h
    have e := byteOf_inj (hx x (by simp)) (hy y (by simp)) h.1
    have e2 := strOf_inj (xs := xs) (ys := ys) (fun a ha => hx a (by simp [ha])) (fun a ha => hy a (by simp [ha])) h.2
    rw [e, e2]
theorem strOf_beq (xs ys : List Int) (hx : Bts xs) (hy : Bts ys) : ((strOf (u8s xs)).toList == (strOf (u8s ys)).toList) = (xs == ys) := by
  rw [strOf_toList, strOf_toList]
  by_cases h : xs = ys
  · subst h; simp
  · have : (u8s xs).map byteOf1 ≠ (u8s ys).map byteOf1 := fun e => h (strOf_inj hx hy e)
    rw [beq_eq_false_iff_ne.2 this, beq_eq_false_iff_ne.2 h]
end Go.Abs
