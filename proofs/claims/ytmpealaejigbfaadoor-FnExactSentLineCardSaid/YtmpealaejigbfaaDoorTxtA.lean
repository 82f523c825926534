/- Numbers as texts, and texts joined: what the reference's own loops compute is what the library computes. Conditions: the numbers are int64, the texts fit. -/
import Derived.Test.YtmpealaejigbfaaDoorPK2
import Derived.Lib.ItoaLen
import Derived.Lib.Join
import Derived.Test.YtmpealaejigbfaaDoorR1
import Derived.Test.YtmpealaejigbfaaDoorR2
import Derived.Test.YtmpealaejigbfaaDoorR3
namespace Go.Proofs.YtmpealaejigbfaaDoor.R
set_option linter.unusedVariables false
set_option linter.unusedSimpArgs false
open Go.RowKit Go.Proofs.YtmpealaejigbfaaDoorW.PrintWords Go.Proofs.YtmpealaejigbfaaDoorW.PrintLast Go.Proofs.YtmpealaejigbfaaDoor.PK
def bs (l : List UInt8) : ByteArray := ⟨l.toArray⟩
theorem bs_size (l : List UInt8) : (bs l).size = l.length := by simp [bs, ByteArray.size]
theorem bs_append (a b : List UInt8) : bs a ++ bs b = bs (a ++ b) := ByteArray.ext (by simp [bs])
theorem bs_list (l : List UInt8) : (bs l).data.toList = l := rfl
theorem bs_eta (x : ByteArray) : bs x.data.toList = x := ByteArray.ext (by simp [bs])
theorem one_byte (n : Int) : strOfNums [n] = bs [UInt8.ofNat n.toNat] := rfl
/-- A number's text. -/
def S (n : Int) : ByteArray := bs (Go.Lib.itoa n)
theorem S_size (n : Int) (h0 : -9223372036854775808 ≤ n) (h1 : n ≤ 9223372036854775807) : (S n).size ≤ 21 := by
  unfold S; rw [bs_size]; exact Go.Lib.itoa_length_le n h0 h1
theorem digits_small {u : Nat} (h : u < 10) : Go.Lib.decDigits u = [UInt8.ofNat (48 + u)] := by rw [Go.Lib.decDigits, dif_pos h]
theorem digits_big {u : Nat} (h : ¬ u < 10) : Go.Lib.decDigits u = Go.Lib.decDigits (u / 10) ++ [UInt8.ofNat (48 + u % 10)] := by rw [Go.Lib.decDigits, dif_neg h]
theorem tdiv_nat (u : Nat) : Int.tdiv (u : Int) 10 = ((u / 10 : Nat) : Int) := by rw [Int.tdiv_eq_ediv_of_nonneg (by omega)]; omega
theorem tmod_nat (u : Nat) : Int.tmod (u : Int) 10 = ((u % 10 : Nat) : Int) := by rw [Int.tmod_eq_emod_of_nonneg (by omega)]; omega
theorem fi_loop : ∀ (u : Nat), u ≤ 9223372036854775807 → ∀ (x : List UInt8), x.length + max u 1 ≤ 9223372036854775807 →
    Ev (fun k => spec_FormatInt.l0 k (u : Int) (bs x)) (bs (Go.Lib.decDigits u ++ x)) := by
  intro u
  induction u using Nat.strongRecOn with
  | _ u ih =>
    intro hu x hx
    by_cases c : u < 10
    · rw [digits_small c]
      have e : (wrap64 (48 + (u : Int))) % 256 = ((48 + u : Nat) : Int) := by rw [w64 (by omega) (by omega)]; omega
      refine Ev.step (fun k => spec_FormatInt.l0.eq_2 ..) (Ev.neg (by omega) (Ev.bind0 rfl ?_))
      rw [e, one_byte, bs_append, Int.toNat_natCast]
      exact Ev.pos (by simp only [bs_size, List.length_cons, List.length_nil]; omega) (Ev.now _)
    · rw [digits_big c]
      have e : (wrap64 (48 + (Int.tmod (u : Int) 10))) % 256 = ((48 + u % 10 : Nat) : Int) := by rw [tmod_nat, w64 (by omega) (by omega)]; omega
      have e2 : wrap64 (Int.tdiv (u : Int) 10) = ((u / 10 : Nat) : Int) := by rw [tdiv_nat, w64 (by omega) (by omega)]
      refine Ev.step (fun k => spec_FormatInt.l0.eq_2 ..) (Ev.pos (by omega) (Ev.bind0 rfl ?_))
      rw [e, e2, one_byte, bs_append, Int.toNat_natCast, List.append_assoc]
      exact Ev.pos (by simp only [bs_size, List.length_cons, List.length_nil]; omega) (ih (u / 10) (by omega) (by omega) _ (by simp only [List.length_append, List.length_cons, List.length_nil]; omega))
theorem fi_neg : ∀ (u : Nat), 1 ≤ u → u ≤ 9223372036854775808 → Ev (fun k => spec_FormatInt.f k (-(u : Int))) (bs (45 :: Go.Lib.decDigits u)) := by
  intro u
  induction u using Nat.strongRecOn with
  | _ u ih =>
    intro h1 hu
    have e2 : wrap64 (Int.tdiv (-(u : Int)) 10) = -((u / 10 : Nat) : Int) := by rw [Int.neg_tdiv, tdiv_nat, w64 (by omega) (by omega)]
    refine Ev.step (fun k => spec_FormatInt.f.eq_2 ..) (Ev.pos (by omega) ?_)
    rw [e2]
    by_cases c : u < 10
    · rw [digits_small c]
      have e : (wrap64 (48 - -(u : Int))) % 256 = ((48 + u : Nat) : Int) := by rw [w64 (by omega) (by omega)]; omega
      refine Ev.pos (by omega) (Ev.bind0 rfl ?_)
      rw [e, one_byte, Int.toNat_natCast]
      rw [show (⟨#[45]⟩ : ByteArray) = bs [45] from rfl, bs_append]
      exact Ev.pos (by simp only [bs_size, List.length_cons, List.length_nil]; omega) (Ev.now _)
    · rw [digits_big c]
      have e : (wrap64 (48 - (Int.tmod (-(u : Int)) 10))) % 256 = ((48 + u % 10 : Nat) : Int) := by rw [Int.neg_tmod, tmod_nat, w64 (by omega) (by omega)]; omega
      have hl := Go.Lib.itoa_length_le (-((u / 10 : Nat) : Int)) (by omega) (by omega)
      rw [Go.Lib.itoa_neg _ (by omega)] at hl
      refine Ev.neg (by omega) (Ev.bind (ih (u / 10) (by omega) (by omega) (by omega)) (Ev.bind0 rfl ?_))
      rw [e, one_byte, Int.toNat_natCast, bs_append]
      exact Ev.pos (by simp only [bs_size, List.length_cons, List.length_nil] at hl ⊢; omega) (Ev.now _)
theorem spec_fi (n : Int) (h0 : -9223372036854775808 ≤ n) (h1 : n ≤ 9223372036854775807) : Ev (fun k => spec_FormatInt.f k n) (S n) := by
  unfold S
  by_cases c : n < 0
  · obtain ⟨u, rfl⟩ : ∃ u : Nat, n = -(u : Int) := ⟨n.natAbs, by omega⟩
    rw [Go.Lib.itoa_neg u (by omega)]
    exact fi_neg u (by omega) (by omega)
  · obtain ⟨u, rfl⟩ : ∃ u : Nat, n = (u : Int) := ⟨n.toNat, by omega⟩
    rw [Go.Lib.itoa_nonneg]
    have h := fi_loop u (by omega) [] (by simp only [List.length_nil]; omega)
    rw [List.append_nil] at h
    exact Ev.step (fun k => spec_FormatInt.f.eq_2 ..) (Ev.neg (by omega) h)
theorem impl_fi (n : Int) (h0 : -9223372036854775808 ≤ n) (h1 : n ≤ 9223372036854775807) : impl_FormatInt.f n = some (S n) := by
  unfold impl_FormatInt.f strconv_Itoa_36.f
  rw [if_pos h0, if_pos h1]
  rfl
/-- The texts joined. -/
def J (xs : List ByteArray) (sep : ByteArray) : ByteArray := bs (Go.Lib.join (xs.map (·.data.toList)) sep.data.toList)
theorem join_snoc (l : List (List UInt8)) (y sep : List UInt8) (h : l ≠ []) : Go.Lib.join (l ++ [y]) sep = Go.Lib.join l sep ++ sep ++ y := by
  cases l with
  | nil => exact absurd rfl h
  | cons x r => rw [List.cons_append, Go.Lib.join_cons, Go.Lib.join_cons]; simp [Go.Lib.joinTail]
theorem join_take_le (l : List (List UInt8)) (sep : List UInt8) (m : Nat) : (Go.Lib.join (l.take m) sep).length ≤ (Go.Lib.join l sep).length := by
  cases l with
  | nil => simp
  | cons x r =>
    cases m with
    | zero => simp [Go.Lib.join_nil]
    | succ m =>
      rw [List.take_succ_cons, Go.Lib.join_length, Go.Lib.join_length]
      have h1 := Go.Lib.lens_take_le (x :: r) (m + 1)
      rw [List.take_succ_cons] at h1
      have h2 : sep.length * (r.take m).length ≤ sep.length * r.length := Nat.mul_le_mul_left _ (by rw [List.length_take]; omega)
      omega
theorem J_zero (xs : List ByteArray) (sep : ByteArray) : J (xs.take 0) sep = (⟨#[]⟩ : ByteArray) := by simp [J, bs, Go.Lib.join_nil]
theorem J_first (xs : List ByteArray) (sep : ByteArray) (h : 0 < xs.length) : J (xs.take (0 + 1)) sep = (⟨#[]⟩ : ByteArray) ++ xs[0] := by
  rw [take_snoc xs 0 h]
  unfold J
  rw [List.take_zero, List.nil_append, List.map_cons, List.map_nil, Go.Lib.join_one, bs_eta]
  exact ByteArray.ext (by simp)
theorem J_next (xs : List ByteArray) (sep : ByteArray) (i : Nat) (h : i < xs.length) (hi : 0 < i) : J (xs.take (i + 1)) sep = (J (xs.take i) sep ++ sep) ++ xs[i] := by
  rw [take_snoc xs i h]
  unfold J
  rw [List.map_append, List.map_cons, List.map_nil, join_snoc _ _ _ (by intro e; have := congrArg List.length e; simp only [List.length_map, List.length_take, List.length_nil] at this; omega), ← bs_append, ← bs_append, bs_eta, bs_eta]
theorem J_le (xs : List ByteArray) (sep : ByteArray) (m : Nat) : (J (xs.take m) sep).size ≤ (J xs sep).size := by
  unfold J
  rw [bs_size, bs_size, List.map_take]
  exact join_take_le _ _ _
theorem size_app (a b : ByteArray) : (a ++ b).size = a.size + b.size := by simp
theorem spec_join (xs : List ByteArray) (sep : ByteArray) (hn : xs.length < 9223372036854775807) (hb : (J xs sep).size ≤ 9223372036854775807) : Ev (fun k => spec_Join.f k xs sep) (J xs sep) := by
  have h := Ev.iter (fun i k => spec_Join.l0 k sep (J (xs.take i) sep) xs (xs.length : Int) (i : Int)) xs.length (J xs sep) (fun i hi hr => by
    refine Ev.step (fun k => spec_Join.l0.eq_2 ..) (Ev.pos (by omega) (Ev.pos (by omega) (Ev.pos (by omega) ?_)))
    rw [rdOf_nat hi, w64s (by omega)]
    have hl := J_le xs sep (i + 1)
    by_cases c : 0 < i
    · rw [J_next xs sep i hi c] at hr hl
      simp only [size_app] at hl
      exact Ev.pos (by omega) (Ev.pos (by omega) (Ev.pos (by simp only [size_app]; omega) hr))
    · obtain rfl : i = 0 := by omega
      rw [J_first xs sep hi] at hr hl
      rw [J_zero]
      exact Ev.neg (by omega) (Ev.pos (by simp only [size_app] at hl; omega) hr)) (by
    rw [List.take_length]
    exact Ev.step (fun k => spec_Join.l0.eq_2 ..) (Ev.neg (by omega) (Ev.now _)))
  rw [J_zero] at h
  exact h
theorem impl_join (xs : List ByteArray) (sep : ByteArray) (hn : xs.length ≤ 140737488355328) (hb : (J xs sep).size ≤ 140737488355328) : impl_Join.f xs sep = some (J xs sep) := by
  unfold impl_Join.f strings_Join.f
  unfold J at hb
  rw [bs_size] at hb
  rw [if_pos hn, if_pos hb]
  rfl
theorem impl_tx (l : List Int) (hn : l.length < 8796093022208) (hw : ∀ n ∈ l, -9223372036854775808 ≤ n ∧ n ≤ 9223372036854775807) : Ev (fun k => impl_texts.f k l) (l.map S) := by
  have h := Ev.iter (fun i k => impl_texts.l0 k ((l.take i).map S) l (l.length : Int) (i : Int)) l.length (l.map S) (fun i hi hr => by
    have hh := hw l[i] (List.getElem_mem hi)
    refine Ev.step (fun k => impl_texts.l0.eq_2 ..) (Ev.pos (by omega) (Ev.pos (by omega) (Ev.pos (by omega) ?_)))
    rw [rd_nat hi, w64s (by omega)]
    refine Ev.bind0 (impl_fi _ hh.1 hh.2) (Ev.pos (by rw [List.length_map, List.length_take]; omega) ?_)
    rw [take_snoc l i hi, List.map_append] at hr
    exact hr) (by
    rw [List.take_length]
    exact Ev.step (fun k => impl_texts.l0.eq_2 ..) (Ev.neg (by omega) (Ev.now _)))
  unfold impl_texts.f
  simpa using h
theorem J_size_le (xs : List ByteArray) (sep : ByteArray) (b : Nat) (hb : ∀ x ∈ xs, x.size ≤ b) : (J xs sep).size ≤ (b + sep.size) * xs.length := by
  unfold J
  rw [bs_size]
  cases xs with
  | nil => simp [Go.Lib.join_nil]
  | cons x r =>
    rw [List.map_cons, Go.Lib.join_length]
    have key : ∀ ys : List ByteArray, (∀ y ∈ ys, y.size ≤ b) → Go.Lib.lens (ys.map (·.data.toList)) ≤ b * ys.length := by
      intro ys
      induction ys with
      | nil => intro _; simp [Go.Lib.lens]
      | cons y ys ih =>
        intro h
        have h1 := ih (fun z hz => h z (List.mem_cons_of_mem _ hz))
        have h2 : y.data.toList.length ≤ b := by rw [Array.length_toList]; exact h y List.mem_cons_self
        simp only [Go.Lib.lens, List.map_cons, List.sum_cons, List.length_cons, Nat.mul_add, Nat.mul_one] at h1 ⊢
        omega
    have h1 := key (x :: r) hb
    have h3 : sep.data.toList.length = sep.size := by rw [Array.length_toList]; rfl
    rw [List.map_cons] at h1
    rw [List.length_map, h3]
    simp only [List.length_cons] at h1 ⊢
    have h4 : sep.size * r.length ≤ sep.size * (r.length + 1) := Nat.mul_le_mul_left _ (by omega)
    rw [Nat.add_mul]
    omega
end Go.Proofs.YtmpealaejigbfaaDoor.R
