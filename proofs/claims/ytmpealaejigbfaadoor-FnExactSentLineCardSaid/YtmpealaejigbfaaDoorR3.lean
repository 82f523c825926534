-- Written by a program of this session (wip/xp.py, over the kit's print) out of the translation: functions, and the walks that show them.
import Derived.Shelf.Strings.OnBuilder
import Derived.Shelf.Strconv.Itoa3
import Derived.Shelf.LaysM
import Derived.Lib.AppendIntMem
import Derived.Test.YtmpealaejigbfaaDoorR0
namespace Go.Proofs.YtmpealaejigbfaaDoor.R
open Go.RowKit Go.Proofs.YtmpealaejigbfaaDoorW.PrintWords Go.Proofs.YtmpealaejigbfaaDoorW.PrintLast Go.Proofs.YtmpealaejigbfaaDoorW.PrintMore
attribute [local go_sem] max2_int min2_int max_two min_two max_three min_three max_four min_four   -- for this text's walks alone
set_option linter.unusedVariables false
set_option linter.unusedSimpArgs false

/-! ### strings_Join: function 31 (the shelf's contract, laid in plain words) -/
def stringsJoin_ren : Go.Shelf.Ren := ⟨fun | 156 => 31 | 165 => 37 | 166 => 38 | 169 => 39 | 240 => 44 | 241 => 45 | 276 => 47 | 277 => 48 | n => n, fun | 31 => 42 | 9 => 9 | 3 => 3 | 4 => 4 | 0 => 0 | 20 => 20 | 72 => 62 | 76 => 66 | 70 => 60 | 37 => 57 | 75 => 65 | 127 => 71 | 164 => 73 | 5 => 5 | 80 => 68 | n => n, fun n => n⟩
theorem stringsJoin_lays : Go.Proofs.Lays.n156 Tryd.prog stringsJoin_ren := { mixed := by kernel_rfl, f156 := Eq.trans Tryd.func31 (congrArg some (by kernel_rfl)), f165 := Eq.trans Tryd.func37 (congrArg some (by kernel_rfl)), f166 := Eq.trans Tryd.func38 (congrArg some (by kernel_rfl)), f169 := Eq.trans Tryd.func39 (congrArg some (by kernel_rfl)), f240 := Eq.trans Tryd.func44 (congrArg some (by kernel_rfl)), f241 := Eq.trans Tryd.func45 (congrArg some (by kernel_rfl)), f276 := Eq.trans Tryd.func47 (congrArg some (by kernel_rfl)), f277 := Eq.trans Tryd.func48 (congrArg some (by kernel_rfl)), t0 := Tryd.underlying0, a0 := Tryd.isAgg0, z0 := Tryd.sizeOf0, v0 := Tryd.zeroValue0, t3 := Tryd.underlying3, a3 := Tryd.isAgg3, z3 := Tryd.sizeOf3, v3 := Tryd.zeroValue3, t4 := Tryd.underlying4, a4 := Tryd.isAgg4, z4 := Tryd.sizeOf4, v4 := Tryd.zeroValue4, t9 := Tryd.underlying9, a9 := Tryd.isAgg9, z9 := Tryd.sizeOf9, v9 := Tryd.zeroValue9, t20 := Tryd.underlying20, a20 := Tryd.isAgg20, z20 := Tryd.sizeOf20, v20 := Tryd.zeroValue20, t31 := Tryd.underlying42, a31 := Tryd.isAgg42, z31 := Tryd.sizeOf42, v31 := Tryd.zeroValue42, t37 := Tryd.underlying57, a37 := Tryd.isAgg57, z37 := Tryd.sizeOf57, v37 := Tryd.zeroValue57, t70 := Tryd.underlying60, a70 := Tryd.isAgg60, z70 := Tryd.sizeOf60, v70 := Tryd.zeroValue60, t72 := Tryd.underlying62, a72 := Tryd.isAgg62, z72 := Tryd.sizeOf62, v72 := Tryd.zeroValue62, t75 := Tryd.underlying65, a75 := Tryd.isAgg65, z75 := Tryd.sizeOf65, v75 := Tryd.zeroValue65, t76 := Tryd.underlying66, a76 := Tryd.isAgg66, z76 := Tryd.sizeOf66, v76 := Tryd.zeroValue66, t127 := Tryd.underlying71, a127 := Tryd.isAgg71, z127 := Tryd.sizeOf71, v127 := Tryd.zeroValue71, t164 := Tryd.underlying73, a164 := Tryd.isAgg73, z164 := Tryd.sizeOf73, v164 := Tryd.zeroValue73 }
theorem stringsJoin_extra : Go.Proofs.Builder.Extra Tryd.prog stringsJoin_ren where
  sizeBuilder := by kernel_rfl
  liesBuilder := by kernel_rfl
  t5 := Tryd.underlying5
  a5 := Tryd.isAgg5
  z5 := Tryd.sizeOf5
  v5 := Tryd.zeroValue5
  infoByte := by kernel_rfl
  cellsByte := by kernel_rfl
  sizeByte := by kernel_rfl
  neB5 := by decide
def strings_Join.f (l0 : List ByteArray) (a1 : ByteArray) : Option ByteArray := if l0.length ≤ 140737488355328 then (if (Go.Lib.join (l0.map (·.data.toList)) a1.data.toList).length ≤ 140737488355328 then (some ⟨(Go.Lib.join (l0.map (·.data.toList)) a1.data.toList).toArray⟩) else (none)) else (none)
theorem strings_Join.calls (A0 : Option Addr) (c0 : Nat) (l0 : List ByteArray) (a1 : ByteArray) (r : ByteArray) (w : World) (hr0 : Kd.C Kd.string w A0 l0.length l0) (hc0 : l0.length ≤ c0) (h : strings_Join.f l0 a1 = some r) :
    Calls Tryd.prog 31 #[.slice A0 l0.length c0, .string a1] w fun e w' => e = .returned (.string r) ∧ Below w.heap.size w w' := by
  unfold strings_Join.f at h
  by_cases c1 : l0.length ≤ 140737488355328
  · rw [if_pos c1] at h
    by_cases c2 : (Go.Lib.join (l0.map (·.data.toList)) a1.data.toList).length ≤ 140737488355328
    · rw [if_pos c2] at h
      obtain rfl := Option.some.inj h
      by_cases hl : l0 = []
      · subst hl
        have hc := Go.Proofs.Any.strings_Join_none stringsJoin_lays stringsJoin_extra A0 c0 a1 w
        change Calls Tryd.prog 31 _ _ _ at hc
        refine hc.mono ?_
        rintro e w' ⟨rfl, rfl⟩
        exact ⟨by simp [Go.Lib.join], Below.refl _ _⟩
      · obtain ⟨ad, rfl, hx⟩ := hr0.2.2 (List.length_pos_iff.2 hl)
        have hcell : ∀ (j : Nat) x, l0[j]? = some x → w.cell? (ad.add j) = some (.string x) := fun j x hj => by
          obtain ⟨cs, hcs, hk, hc⟩ := hx j x hj
          have e_ : cs = [Value.string x] := hk
          subst e_
          have := hc 0 _ rfl
          simpa [Kd.string, Kd.scalar] using this
        obtain ⟨x0, r0, rfl⟩ : ∃ x r, l0 = x :: r := by cases l0 with | nil => exact absurd rfl hl | cons x r => exact ⟨x, r, rfl⟩
        have h0 := hcell 0 x0 rfl
        have hsp : ad.spot = none := by
          have h1 : w.cell? ad = some (.string x0) := h0
          unfold World.cell? at h1
          split at h1
          · cases hs : ad.spot with
            | none => rfl
            | some z => rw [hs] at h1; simp at h1
          · exact absurd h1 (by simp)
        obtain ⟨bk, o, sp⟩ := ad
        have hsp' : sp = none := hsp
        subst hsp'
        have hbk : bk < w.heap.size := World.block_lt_of_cell? w _ (show w.cell? ⟨bk, o, none⟩ = some (.string x0) from h0)
        have hc := Go.Proofs.Any.strings_Join stringsJoin_lays stringsJoin_extra bk o c0 (x0 :: r0) a1 w (fun j x hj => by
          have := hcell j x hj
          unfold Addr.add at this
          split at this
          · rename_i hj0; rw [hj0]; exact this
          · exact this) hbk c1 hc0 c2
        change Calls Tryd.prog 31 _ _ _ at hc
        exact hc
    · rw [if_neg c2] at h
      exact absurd h (by simp)
  · rw [if_neg c1] at h
    exact absurd h (by simp)

/-! ### impl_Join: function 18 -/
def impl_Join.f (l0 : List ByteArray) (a1 : ByteArray) : Option (ByteArray) := (strings_Join.f l0 a1).bind fun t131 => (some t131)
set_option maxHeartbeats 8000000 in
set_option maxRecDepth 100000 in
theorem impl_Join.calls (A0 : Option Addr) (c0 : Nat) (l0 : List ByteArray) (a1 : ByteArray) (r : ByteArray) (w : World) (hr0 : Kd.C Kd.string w A0 l0.length l0) (hc0 : l0.length ≤ c0) (h : impl_Join.f l0 a1 = some r) :
    Calls Tryd.prog 18 #[.slice A0 l0.length c0, .string a1] w fun e w' => e = .returned (.string r) ∧ Below w.heap.size w w' := by
  have HR0 := Aside0.mk hr0
  have HC0 := Aside0.mk hc0
  clear hr0 hc0
  have HB := Aside0.mk (Below.refl w.heap.size w)
  have H : ((strings_Join.f l0 a1).bind fun t131 => (some t131)) = some r := h
  clear h
  replace H := Option.bind_eq_some_iff.mp H
  obtain ⟨t131, A30, H⟩ := H
  replace H : (some t131) = some r := H
  have A3 := Aside0.mk A30
  clear A30
  obtain rfl := Option.some.inj H
  go_enter Tryd.func18, Tryd.ntmps18
  go_wp2_with (first | ((with_reducible refine gate_callee (f := 31) rfl ?_); refine goesL_ (some 7) rfl rfl Tryd.func31 (by kernel_rfl) rfl #[.slice A0 l0.length c0, .string a1] rfl ga ?_; (with_reducible refine (strings_Join.calls _ _ l0 a1 t131 _ ?side1 ?side2 A3.out).mono ?_); (case side1 => exact ck HR0.out); (case side2 => exact HC0.out); rintro e w4 ⟨rfl, hb⟩; refine ⟨_, rfl, ?_⟩; replace HB := Aside0.mk (below_step bel hb); (try clear hb)))
  go_ret
  exact ⟨er, bel⟩

-- NOT PRINTED: function 49 (strconv_small)

-- NOT PRINTED: function 53 (strconv_log10Pow2)

-- NOT PRINTED: function 54 (bits_Len64)

-- NOT PRINTED: function 55 (strconv_bool2_int)

-- NOT PRINTED: function 50 (strconv_numDigits)

-- NOT PRINTED: function 51 (strconv_formatBase10)

-- NOT PRINTED: function 56 (strconv_isPowerOfTwo)

-- NOT PRINTED: function 58 (bits_TrailingZeros32)

-- NOT PRINTED: function 59 (bits_TrailingZeros64)

-- NOT PRINTED: function 57 (bits_TrailingZeros)

-- NOT PRINTED: function 52 (strconv_formatBits)

-- NOT PRINTED: function 46 (strconv_FormatInt)

-- NOT PRINTED: function 43 (strconv_Itoa_43)

/-! ### strconv_Itoa_36: function 36 (the shelf's contract, laid in plain words) -/
def strconvItoa_ren : Go.Shelf.Ren := ⟨fun | 171 => 36 | 243 => 43 | 246 => 46 | 283 => 49 | 284 => 50 | 285 => 51 | 286 => 52 | 129 => 54 | 317 => 53 | 318 => 55 | 319 => 56 | 320 => 57 | 337 => 58 | 338 => 59 | n => n, fun | 3 => 3 | 9 => 9 | 2 => 2 | 4 => 4 | 171 => 76 | 0 => 0 | 53 => 77 | 37 => 57 | 5 => 5 | 173 => 80 | 212 => 84 | 51 => 85 | 20 => 20 | 213 => 86 | 46 => 88 | 232 => 91 | 233 => 92 | n => n, fun | 17 => 1 | 18 => 2 | 19 => 3 | n => n⟩
theorem strconvItoa_lays : Go.Proofs.LaysM.n171 Tryd.prog strconvItoa_ren := { mixed := by kernel_rfl, f129 := Eq.trans Tryd.func54 (congrArg some (by kernel_rfl)), f171 := Eq.trans Tryd.func36 (congrArg some (by kernel_rfl)), f243 := Eq.trans Tryd.func43 (congrArg some (by kernel_rfl)), f246 := Eq.trans Tryd.func46 (congrArg some (by kernel_rfl)), f283 := Eq.trans Tryd.func49 (congrArg some (by kernel_rfl)), f284 := Eq.trans Tryd.func50 (congrArg some (by kernel_rfl)), f285 := Eq.trans Tryd.func51 (congrArg some (by kernel_rfl)), f286 := Eq.trans Tryd.func52 (congrArg some (by kernel_rfl)), f317 := Eq.trans Tryd.func53 (congrArg some (by kernel_rfl)), f318 := Eq.trans Tryd.func55 (congrArg some (by kernel_rfl)), f319 := Eq.trans Tryd.func56 (congrArg some (by kernel_rfl)), f320 := Eq.trans Tryd.func57 (congrArg some (by kernel_rfl)), f337 := Eq.trans Tryd.func58 (congrArg some (by kernel_rfl)), f338 := Eq.trans Tryd.func59 (congrArg some (by kernel_rfl)), t0 := Tryd.underlying0, a0 := Tryd.isAgg0, z0 := Tryd.sizeOf0, v0 := Tryd.zeroValue0, t2 := Tryd.underlying2, a2 := Tryd.isAgg2, z2 := Tryd.sizeOf2, v2 := Tryd.zeroValue2, t3 := Tryd.underlying3, a3 := Tryd.isAgg3, z3 := Tryd.sizeOf3, v3 := Tryd.zeroValue3, t4 := Tryd.underlying4, a4 := Tryd.isAgg4, z4 := Tryd.sizeOf4, v4 := Tryd.zeroValue4, t5 := Tryd.underlying5, a5 := Tryd.isAgg5, z5 := Tryd.sizeOf5, v5 := Tryd.zeroValue5, t9 := Tryd.underlying9, a9 := Tryd.isAgg9, z9 := Tryd.sizeOf9, v9 := Tryd.zeroValue9, t20 := Tryd.underlying20, a20 := Tryd.isAgg20, z20 := Tryd.sizeOf20, v20 := Tryd.zeroValue20, t37 := Tryd.underlying57, a37 := Tryd.isAgg57, z37 := Tryd.sizeOf57, v37 := Tryd.zeroValue57, t46 := Tryd.underlying88, a46 := Tryd.isAgg88, z46 := Tryd.sizeOf88, v46 := Tryd.zeroValue88, t51 := Tryd.underlying85, a51 := Tryd.isAgg85, z51 := Tryd.sizeOf85, v51 := Tryd.zeroValue85, t53 := Tryd.underlying77, a53 := Tryd.isAgg77, z53 := Tryd.sizeOf77, v53 := Tryd.zeroValue77, t171 := Tryd.underlying76, a171 := Tryd.isAgg76, z171 := Tryd.sizeOf76, v171 := Tryd.zeroValue76, t173 := Tryd.underlying80, a173 := Tryd.isAgg80, z173 := Tryd.sizeOf80, v173 := Tryd.zeroValue80, t212 := Tryd.underlying84, a212 := Tryd.isAgg84, z212 := Tryd.sizeOf84, v212 := Tryd.zeroValue84, t213 := Tryd.underlying86, a213 := Tryd.isAgg86, z213 := Tryd.sizeOf86, t232 := Tryd.underlying91, a232 := Tryd.isAgg91, z232 := Tryd.sizeOf91, v232 := Tryd.zeroValue91, t233 := Tryd.underlying92, a233 := Tryd.isAgg92, z233 := Tryd.sizeOf92, v233 := Tryd.zeroValue92, g17 := by kernel_rfl, g18 := by kernel_rfl, g19 := by kernel_rfl, i0 := by kernel_rfl, i2 := by kernel_rfl, i3 := by kernel_rfl, i4 := by kernel_rfl, i5 := by kernel_rfl, i9 := by kernel_rfl, i20 := by kernel_rfl, i37 := by kernel_rfl, i46 := by kernel_rfl, i51 := by kernel_rfl, i53 := by kernel_rfl, i171 := by kernel_rfl, i173 := by kernel_rfl, i212 := by kernel_rfl, i232 := by kernel_rfl, i233 := by kernel_rfl, m17 := by kernel_rfl, m18 := by kernel_rfl, m19 := by kernel_rfl }
/-- The library's table of powers of ten reads as it was laid. -/
def TabW (w : World) : Prop := Go.Lib.TabIs Tryd.prog w "internal/strconv.uint64pow10" .u64 Go.Lib.pow10Tab
theorem tabAt {w W : World} (h : TabW w) (hb : Below w.heap.size w W) : TabW W := Go.Lib.tabBelow_of_tabIs h W hb
def strconv_Itoa_36.f (a0 : Int) : Option ByteArray := if -9223372036854775808 ≤ a0 then (if a0 ≤ 9223372036854775807 then (some ⟨(Go.Lib.itoa a0).toArray⟩) else (none)) else (none)
theorem strconv_Itoa_36.calls (a0 : Int) (r : ByteArray) (w : World) (hT : TabW w) (h : strconv_Itoa_36.f a0 = some r) :
    Calls Tryd.prog 36 #[.int .i64 a0] w fun e w' => e = .returned (.string r) ∧ Below w.heap.size w w' := by
  unfold strconv_Itoa_36.f at h
  by_cases c1 : -9223372036854775808 ≤ a0
  · rw [if_pos c1] at h
    by_cases c2 : a0 ≤ 9223372036854775807
    · rw [if_pos c2] at h
      obtain rfl := Option.some.inj h
      have hc := Go.Proofs.Any.strconv_Itoa strconvItoa_lays a0 c1 c2 w hT
      change Calls Tryd.prog 36 _ _ _ at hc
      refine hc.mono ?_
      rintro e w' ⟨rfl, k, os, rfl⟩
      exact ⟨rfl, Go.Lib.below_grow _ w (Nat.le_refl _) k os⟩
    · rw [if_neg c2] at h
      exact absurd h (by simp)
  · rw [if_neg c1] at h
    exact absurd h (by simp)

/-! ### impl_FormatInt: function 28 -/
def impl_FormatInt.f (a0 : Int) : Option (ByteArray) := (strconv_Itoa_36.f a0).bind fun t132 => (some t132)
set_option maxHeartbeats 8000000 in
set_option maxRecDepth 100000 in
theorem impl_FormatInt.calls (a0 : Int) (r : ByteArray) (w : World) (hT : TabW w) (h : impl_FormatInt.f a0 = some r) :
    Calls Tryd.prog 28 #[.int .i64 a0] w fun e w' => e = .returned (.string r) ∧ Below w.heap.size w w' := by
  have HT := Aside0.mk hT
  clear hT
  have HB := Aside0.mk (Below.refl w.heap.size w)
  have H : ((strconv_Itoa_36.f a0).bind fun t132 => (some t132)) = some r := h
  clear h
  replace H := Option.bind_eq_some_iff.mp H
  obtain ⟨t132, A20, H⟩ := H
  replace H : (some t132) = some r := H
  have A2 := Aside0.mk A20
  clear A20
  obtain rfl := Option.some.inj H
  go_enter Tryd.func28, Tryd.ntmps28
  go_wp2_with (first | ((with_reducible refine gate_callee (f := 36) rfl ?_); refine goesL_ (some 4) rfl rfl Tryd.func36 (by kernel_rfl) rfl #[.int .i64 a0] rfl ga ?_; (with_reducible refine (strconv_Itoa_36.calls a0 t132 _ (tabAt HT.out bel) A2.out).mono ?_); rintro e w3 ⟨rfl, hb⟩; refine ⟨_, rfl, ?_⟩; replace HB := Aside0.mk (below_step bel hb); (try clear hb)))
  go_ret
  exact ⟨er, bel⟩

/-! ### impl_texts: function 19 -/
def impl_texts.l0 : Nat → List ByteArray → List Int → Int → Int → Option (List ByteArray)
  | 0, _, _, _, _ => none
  | k + 1, x3, x7, x8, x9 => if x9 < x8 then (if 0 ≤ x9 then (if x9 < (x7.length : Int) then ((impl_FormatInt.f (rd x7 x9)).bind fun t137 => (if x3.length < 8796093022208 then (impl_texts.l0 k (x3 ++ [t137]) x7 x8 (wrap64 (x9 + 1))) else (none))) else (none)) else (none)) else (some x3)
def impl_texts.f (k : Nat) (l0 : List Int) : Option (List ByteArray) := impl_texts.l0 k (([] : List ByteArray)) l0 (l0.length : Int) 0
theorem impl_texts.mono_l : ∀ k, (∀ y0 y1 y2 y3, LeO (impl_texts.l0 k y0 y1 y2 y3) (impl_texts.l0 (k + 1) y0 y1 y2 y3))
  | 0 => fun _ _ _ _ r h => by simp [impl_texts.l0] at h
  | k + 1 => by
    have ih0 := impl_texts.mono_l k
    · intro y0 y1 y2 y3
      unfold impl_texts.l0
      repeat' first
      | (with_reducible exact ih0 _ _ _ _)
      | (with_reducible exact LeO.refl _)
      | (with_reducible exact LeO.none _)
      | (with_reducible refine LeO.ite ?_ ?_)
      | (with_reducible refine LeO.bind ?_ (fun _ => ?_))
      | exact ih0 _ _ _ _
      | exact LeO.none _
      | refine LeO.ite ?_ ?_
      | refine LeO.bind ?_ (fun _ => ?_)
theorem impl_texts.mono : ∀ a0 k, LeO (impl_texts.f k a0) (impl_texts.f (k + 1) a0) := by
  intro a0 k
  have ih0 := impl_texts.mono_l k
  unfold impl_texts.f
  repeat' first
      | (with_reducible exact ih0 _ _ _ _)
      | (with_reducible exact LeO.refl _)
      | (with_reducible exact LeO.none _)
      | (with_reducible refine LeO.ite ?_ ?_)
      | (with_reducible refine LeO.bind ?_ (fun _ => ?_))
      | exact ih0 _ _ _ _
      | exact LeO.none _
      | refine LeO.ite ?_ ?_
      | refine LeO.bind ?_ (fun _ => ?_)
set_option maxHeartbeats 8000000 in
set_option maxRecDepth 100000 in
theorem impl_texts.calls (k : Nat) (A0 : Option Addr) (c0 : Nat) (l0 : List Int) (r : List ByteArray) (w : World) (hT : TabW w) (hr0 : Kd.C (Kd.int .i64) w A0 l0.length l0) (hc0 : l0.length ≤ c0) (h : impl_texts.f k l0 = some r) :
    Calls Tryd.prog 19 #[.slice A0 l0.length c0] w fun e w' => ∃ v0_ : Value, e = .returned (v0_) ∧ Kd.R Kd.string 9 w' w.heap.size (fun _ => True) v0_ r ∧ Below w.heap.size w w' := by
  have HT := Aside0.mk hT
  clear hT
  have HR0 := Aside0.mk hr0
  have HC0 := Aside0.mk hc0
  clear hr0 hc0
  have HB := Aside0.mk (Below.refl w.heap.size w)
  have H : (impl_texts.l0 k (([] : List ByteArray)) l0 (l0.length : Int) 0) = some r := h
  clear h
  obtain ⟨y133, hy133⟩ : ∃ y_ : List ByteArray, y_ = (([] : List ByteArray)) := ⟨_, rfl⟩
  replace H : (impl_texts.l0 k y133 l0 (l0.length : Int) 0) = some r := by first | (rw [hy133]; with_reducible exact H) | (have H2_ := (Option.bind_some _ _).symm.trans H; rw [hy133]; with_reducible exact H2_) | (have H2_ := (Option.bind_some _ _).symm.trans H; with_reducible exact H2_) | with_reducible exact H | (rw [hy133]; exact H) | exact H
  have Ny133 := Aside0.mk hy133
  clear hy133
  have H' := Aside0.mk H
  clear H
  go_enter Tryd.func19, Tryd.ntmps19
  go_wp2_with (first | ((with_reducible refine gate_dst (N := 6) rfl ?_); refine Kd.R_lit Kd.string _ 9 ?hg (N := 6) ?hd (xs := ([] : List ByteArray)) (inner := []) (ok := fun _ => True) (okp := fun _ => True) ?hr ?hp (fun _ hk => hk) trivial (Below.refl _ _) (Nat.le_refl _) (by simp) ?_; (case hd => rfl); (case hg => rfl); (case hr => first | (go_simp; done) | (go_simp; rfl)); (case hp => exact (Reps.none _ _)); intro v134 w2 ho3 hb hg_ hnew_; clear hg_ hnew_; (first | rw [← Ny133.out] at ho3 | (simp only [Int.reduceToNat] at ho3; rw [← Ny133.out] at ho3)); have HO135 := Aside0.mk (Kd.R_lower ho3 (below_size bel)); replace HB := Aside0.mk (below_step bel hb); clear hb ho3))
  go_loopg [3, 9] k (fun kq v3 v9 w' => ∃ (x3_1 : List ByteArray) (x9_1 : Int), v9 = .int .i64 x9_1 ∧ Aside0 (impl_texts.l0 kq x3_1 l0 (l0.length : Int) x9_1 = some r) ∧ Aside0 (kq ≤ k) ∧ Aside0 (Kd.R Kd.string 9 w' w.heap.size (fun _ => True) v3 x3_1) ∧ Aside0 (Below w.heap.size w w'))
  case atStart => exact ⟨(y133), (0), (es), H', ⟨Nat.le_refl _⟩, ⟨rk HO135.out⟩, ⟨bel⟩⟩
  case round =>
    clear H'
    try clear c1; try clear p2
    obtain ⟨x3_1, x9_1, rfl, HA, HK1, HO_3, HB⟩ := hrel
    cases gk with
    | zero => exact absurd HA.out (by simp [impl_texts.l0])
    | succ k1 =>
      have H := HA.out
      clear HA
      simp only [impl_texts.l0] at H
      by_cases c4 : x9_1 < (l0.length : Int)
      · rw [if_pos c4] at H
        have c4b0 : decide (x9_1 < (l0.length : Int)) = true := decide_eq_true c4
        clear c4
        by_cases c5 : 0 ≤ x9_1
        · rw [if_pos c5] at H
          have c5b0 : decide (0 ≤ x9_1) = true := decide_eq_true c5
          clear c5
          by_cases c6 : x9_1 < (l0.length : Int)
          · rw [if_pos c6] at H
            have c6b0 : decide (x9_1 < (l0.length : Int)) = true := decide_eq_true c6
            clear c6
            replace H := Option.bind_eq_some_iff.mp H
            obtain ⟨t137, A70, H⟩ := H
            replace H : (if x3_1.length < 8796093022208 then (impl_texts.l0 k1 (x3_1 ++ [t137]) l0 (l0.length : Int) (wrap64 (x9_1 + 1))) else (none)) = some r := H
            have A7 := Aside0.mk A70
            clear A70
            by_cases c8 : x3_1.length < 8796093022208
            · rw [if_pos c8] at H
              have LMc8 := Aside0.mk c8
              clear c8
              obtain ⟨y138, hy138⟩ : ∃ y_ : List ByteArray, y_ = (x3_1 ++ [t137]) := ⟨_, rfl⟩
              replace H : (impl_texts.l0 k1 y138 l0 (l0.length : Int) (wrap64 (x9_1 + 1))) = some r := by first | (rw [hy138]; with_reducible exact H) | (have H2_ := (Option.bind_some _ _).symm.trans H; rw [hy138]; with_reducible exact H2_) | (have H2_ := (Option.bind_some _ _).symm.trans H; with_reducible exact H2_) | with_reducible exact H | (rw [hy138]; exact H) | exact H
              have Ny138 := Aside0.mk hy138
              clear hy138
              have H' := Aside0.mk H
              clear H
              have p136 : 0 ≤ (x9_1 : Int) := asm
              have q136 : x9_1 < (l0.length : Int) := asm
              obtain ⟨ad136, e136, hx136_0⟩ := Kd.at_int HR0.out x9_1 p136 q136
              cases e136
              replace hx136_0 := hcl HB.out hx136_0
              replace p136 := eq_true p136
              replace q136 := eq_true q136
              go_wp2_with (first | ((with_reducible refine gate_callee (f := 28) rfl ?_); refine goesL_ (some 15) rfl rfl Tryd.func28 (by kernel_rfl) rfl #[.int .i64 (rd l0 x9_1)] rfl ga ?_; (with_reducible refine (impl_FormatInt.calls (rd l0 x9_1) t137 _ (tabAt HT.out bel) A7.out).mono ?_); rintro e w9 ⟨rfl, hb⟩; refine ⟨_, rfl, ?_⟩; replace HO_3 := Aside0.mk (Kd.R_below (rk HO_3.out) hb); replace HB := Aside0.mk (below_step bel hb); (try clear hb)) | ((with_reducible refine gate_builtin (b := .append) (xs := #[.tmp 13, .tmp 16]) rfl ?_); at_builtin; refine Kd.R_append Kd.string (w0 := w) w.heap.size rfl (.tmp 13) (.tmp 16) 42 9 (.string ⟨#[]⟩) 16 rfl Tryd.underlying42 info9 rfl (by decide) (by omega) u3 x3_1 t137 [.string t137] (fun _ => True) (fun _ => False) rfl rfl ?aP (fun _ hk => hk.elim) ?aF ?aO ?aB ?aS ?aL ?_; (case aP => exact rfl); (case aB => exact bel); (case aF => exact (fun _ _ => trivial)); (case aO => exact (rk HO_3.out)); (case aS => exact (below_size bel)); (case aL => have := LMc8.out; omega); intro v139 w10 ho hb hg hat; rw [← Ny138.out] at ho; have n0_ := Aside0.mk (hb); have n1_ := Aside0.mk (ho); clear HB; clear HO_3; have HB := n0_; have HO140 := n1_; clear n0_ n1_; clear ho hb hg hat))
              go_roundg k1
              case measure => have := HK1.out; omega
              case rel => exact ⟨(y138), (wrap64 (x9_1 + 1)), (es), H', ⟨by have := HK1.out; omega⟩, ⟨rk HO140.out⟩, ⟨bel⟩⟩
            · rw [if_neg c8] at H
              exact absurd H (by simp)
          · rw [if_neg c6] at H
            exact absurd H (by simp)
        · rw [if_neg c5] at H
          exact absurd H (by simp)
      · rw [if_neg c4] at H
        have c4b0 : decide (x9_1 < (l0.length : Int)) = false := decide_eq_false c4
        clear c4
        obtain rfl := Option.some.inj H
        go_wp2
        go_ret
        exact ⟨_, er, rk HO_3.out, bel⟩

end Go.Proofs.YtmpealaejigbfaaDoor.R
