/-
  Texts: what program and reference compute. Plain Lean, no program, no condition.
-/
import Derived.Test.YtfiilgnebmidbaaDoorDD
import Derived.Test.YtfiilgnebmidbaaDoorDStr
import Derived.Laws.BytesArg
import Derived.Test.YtfiilgnebmidbaaDoorPuN
import Derived.Test.YtfiilgnebmidbaaDoorPuSq
namespace Go.Proofs.YtfiilgnebmidbaaDoor
open Go Am
set_option linter.unusedVariables false
set_option linter.unusedSimpArgs false

def toB (l : List UInt8) : ByteArray := ⟨l.toArray⟩
theorem toB_size (l : List UInt8) : (toB l).size = l.length := by simp [toB, ByteArray.size]
theorem toB_app (a b : List UInt8) : toB a ++ toB b = toB (a ++ b) := by
  apply ByteArray.ext
  rw [ByteArray.data_append]
  simp [toB]
theorem toB_data (l : List UInt8) : (toB l).data.toList = l := by simp [toB]
theorem beq_refl' (b : ByteArray) : (b.toList == b.toList) = true := by simp
def dec (n : Int) : List UInt8 := Go.Lib.decDigits n.toNat
theorem dec_small {n : Int} (h : 0 ≤ n ∧ n < 10) : dec n = [UInt8.ofNat (48 + n.toNat)] := by
  unfold dec; rw [Go.Lib.decDigits, dif_pos (by omega)]
theorem dec_big {n : Int} (h : 10 ≤ n ∧ n < 100) : dec n = dec (n / 10) ++ [UInt8.ofNat (48 + (n % 10).toNat)] := by
  unfold dec
  rw [Go.Lib.decDigits, dif_neg (by omega), show (n / 10).toNat = n.toNat / 10 by omega, show (n % 10).toNat = n.toNat % 10 by omega]
theorem dec_len {n : Int} (h : 0 ≤ n ∧ n < 100) : (dec n).length ≤ 2 := by
  by_cases h1 : n < 10
  · rw [dec_small ⟨h.1, h1⟩]; simp
  · rw [dec_big ⟨by omega, h.2⟩, dec_small ⟨by omega, by omega⟩]; simp
theorem decimal_D {fu : Nat} {n : Int} (h : 0 ≤ n ∧ n < 100) : D_impl_decimal fu n = some (toB (dec n)) := by
  unfold D_impl_decimal D_strconv_FormatInt
  rw [chk_t ⟨h.1, h.2, rfl⟩]; rfl
theorem nums_one {x : Int} {k : Nat} (h : (48 + x).toNat = 48 + k) : strOfNums [48 + x] = toB [UInt8.ofNat (48 + k)] := by
  unfold strOfNums toB
  simp only [List.map_cons, List.map_nil, h]
theorem l01Dec1 {fu : Nat} {n : Int} (h : 0 ≤ n ∧ n < 10) : D_spec_l01Dec (fu + 1) n = some (toB (dec n)) := by
  unfold D_spec_l01Dec
  rw [bif_df (by omega), bif_dt (by omega), chk_in64 (by omega) (by omega), chk_and (by omega) (by omega), dec_small h, nums_one (k := n.toNat) (by omega)]
theorem l01Dec_D {fu : Nat} (hf : Big fu) {n : Int} (h : 0 ≤ n ∧ n < 100) : D_spec_l01Dec fu n = some (toB (dec n)) := by
  obtain ⟨g, rfl⟩ : ∃ g, fu = g + 1 + 1 := ⟨fu - 2, by unfold Big at hf; omega⟩
  by_cases h1 : n < 10
  · exact l01Dec1 ⟨h.1, h1⟩
  · have e1 : n.tdiv 10 = n / 10 := Int.tdiv_eq_ediv_of_nonneg h.1
    have e2 : n.tmod 10 = n % 10 := Int.tmod_eq_emod_of_nonneg h.1
    have hl := dec_len (n := n / 10) ⟨by omega, by omega⟩
    unfold D_spec_l01Dec
    rw [bif_df (by omega), bif_df (by omega), e1, e2, chk_t ⟨by decide, by unfold in64; omega⟩, l01Dec1 ⟨by omega, by omega⟩, Option.bind_some, chk_in64 (by omega) (by omega), chk_and (by omega) (by omega), nums_one (k := (n % 10).toNat) (by omega), chk_le (by rw [toB_size, toB_size]; simp; omega), toB_app, ← dec_big ⟨by omega, h.2⟩]
/-- words put together -/
theorem joinTail_app (sep w : List UInt8) (r : List (List UInt8)) : Go.Lib.joinTail sep (r ++ [w]) = Go.Lib.joinTail sep r ++ sep ++ w := by
  unfold Go.Lib.joinTail; rw [List.map_append, List.flatten_append]; simp
theorem join_app (sep w : List UInt8) (ws : List (List UInt8)) : Go.Lib.join (ws ++ [w]) sep = (if 0 < ws.length then Go.Lib.join ws sep ++ sep else Go.Lib.join ws sep) ++ w := by
  cases ws with
  | nil => rw [List.nil_append, Go.Lib.join_one]; rfl
  | cons x r => rw [List.cons_append, Go.Lib.join_cons, Go.Lib.join_cons, joinTail_app]; simp
theorem join_len {b : Nat} {s : UInt8} : ∀ {ws : List (List UInt8)}, (∀ w ∈ ws, w.length ≤ b) → (Go.Lib.join ws [s]).length ≤ ws.length * (b + 1)
  | [], _ => by simp [Go.Lib.join_nil]
  | x :: r, h => by
    rw [Go.Lib.join_cons]
    have h1 := h x (by simp)
    have h2 : ∀ (l : List (List UInt8)), (∀ w ∈ l, w.length ≤ b) → (Go.Lib.joinTail [s] l).length ≤ l.length * (b + 1) := by
      intro l
      induction l with
      | nil => intro _; simp [Go.Lib.joinTail]
      | cons y l ih =>
        intro hl
        have e : Go.Lib.joinTail [s] (y :: l) = [s] ++ y ++ Go.Lib.joinTail [s] l := by unfold Go.Lib.joinTail; simp
        have := ih (fun w hw => hl w (by simp [hw]))
        have := hl y (by simp)
        rw [e]; simp only [List.length_append, List.length_cons, List.length_nil]
        rw [Nat.add_mul]; omega
    have := h2 r (fun w hw => h w (by simp [hw]))
    rw [List.length_append, List.length_cons, Nat.add_mul]; omega
theorem joined_D {fu : Nat} {ws : List (List UInt8)} {s : UInt8} {b : Nat} (hw : ∀ w ∈ ws, w.length ≤ b) (hl : ws.length * (b + 1) ≤ 1000000) (hn : ws.length ≤ 1000000) : D_strings_Join fu (ws.map toB) (toB [s]) = some (toB (Go.Lib.join ws [s])) := by
  have e : (ws.map toB).map (fun x => x.data.toList) = ws := by rw [List.map_map]; exact (List.map_congr_left (fun x _ => toB_data x)).trans (List.map_id _)
  have h1 := join_len (s := s) hw
  unfold D_strings_Join
  rw [e, toB_data, chk_t ⟨by rw [List.length_map]; omega, by omega⟩]; rfl
theorem take_app {α : Type} {l : List α} {k : Nat} {x : α} (h : l[k]? = some x) : l.take (k + 1) = l.take k ++ [x] := by rw [List.take_add_one, h]; rfl
/-- a word behind what is there, with what stands between -/
theorem step_text {ws : List (List UInt8)} {acc w : List UInt8} {s : UInt8} {k : Nat} (hw : ws[k]? = some w) : (if 0 < k then acc ++ Go.Lib.join (ws.take k) [s] ++ [s] else acc ++ Go.Lib.join (ws.take k) [s]) ++ w = acc ++ Go.Lib.join (ws.take (k + 1)) [s] := by
  have hk : k < ws.length := (List.getElem?_eq_some_iff.1 hw).1
  rw [take_app hw, join_app, show (ws.take k).length = k from by rw [List.length_take]; omega]
  split <;> simp
theorem take_len {α : Type} {P : α → Prop} {l : List α} {k : Nat} (h : ∀ x ∈ l, P x) : ∀ x ∈ l.take k, P x := fun x hx => h x (List.mem_of_mem_take hx)
theorem join_take {ws : List (List UInt8)} {s : UInt8} {b k : Nat} (hw : ∀ w ∈ ws, w.length ≤ b) (hk : k ≤ ws.length) : (Go.Lib.join (ws.take k) [s]).length ≤ ws.length * (b + 1) := by
  have h1 := join_len (s := s) (take_len (k := k) hw)
  have h2 : (ws.take k).length * (b + 1) ≤ ws.length * (b + 1) := Nat.mul_le_mul_right _ (by rw [List.length_take]; omega)
  omega
end Go.Proofs.YtfiilgnebmidbaaDoor

