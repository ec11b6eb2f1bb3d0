/- Contracts: stringslite_HasPrefix, strings_HasPrefix, lex_skip, utf8_DecodeRuneInString, runes_Letter, runes_Digit, lex_name, lex_Words. -/
import Derived.Test.YtbnpgobjbokboaaDoorPLexx0
import Derived.ScopeJumps
namespace Go.Proofs.YtbnpgobjbokboaaDoor.PLex
open Go.RowKit Go.Proofs.YtbnpgobjbokboaaDoorW.PrintWords Go.Proofs.YtbnpgobjbokboaaDoorW.PrintLast Go.Proofs.YtbnpgobjbokboaaDoorW.PrintMore
attribute [local go_sem] max2_int min2_int max_two min_two max_three min_three max_four min_four   -- for this text's walks alone
set_option linter.unusedVariables false
set_option linter.unusedSimpArgs false

/-! ### stringslite_HasPrefix: function 47 -/
def stringslite_HasPrefix.f (a0 : ByteArray) (a1 : ByteArray) : Option (Bool) := if (a0.size : Int) ≥ (a1.size : Int) then (if 0 ≤ (a1.size : Int) then (if (a1.size : Int) ≤ (a0.size : Int) then (some ((a0.extract 0 ((a1.size : Int) : Int).toNat).toList == a1.toList)) else (none)) else (none)) else (some false)
set_option maxHeartbeats 8000000 in
set_option maxRecDepth 100000 in
theorem stringslite_HasPrefix.calls (a0 : ByteArray) (a1 : ByteArray) (r : Bool) (w : World) (h : stringslite_HasPrefix.f a0 a1 = some r) :
  Calls Tryd.prog 47 #[.string a0, .string a1] w fun e w' => e = .returned (.bool r) ∧ Drawn0 w w' := by
 have H : (if (a0.size : Int) ≥ (a1.size : Int) then (if 0 ≤ (a1.size : Int) then (if (a1.size : Int) ≤ (a0.size : Int) then (some ((a0.extract 0 ((a1.size : Int) : Int).toNat).toList == a1.toList)) else (none)) else (none)) else (some false)) = some r := h
 clear h
 by_cases c3 : (a0.size : Int) ≥ (a1.size : Int)
 ·
  rw [if_pos c3] at H
  have c3b0 : decide ((a1.size : Int) ≤ (a0.size : Int)) = true := decide_eq_true c3
  have c3b1 : decide (a1.size ≤ a0.size) = true := decide_eq_true (Int.ofNat_le.mp c3)
  clear c3
  by_cases c4 : 0 ≤ (a1.size : Int)
  ·
   rw [if_pos c4] at H
   have c4b0 := eq_true c4
   have c4b1 : decide (0 ≤ (a1.size : Int)) = true := decide_eq_true c4
   clear c4
   by_cases c5 : (a1.size : Int) ≤ (a0.size : Int)
   ·
    rw [if_pos c5] at H
    have c5b0 := eq_true c5
    have c5b1 : decide ((a1.size : Int) ≤ (a0.size : Int)) = true := decide_eq_true c5
    clear c5
    obtain rfl := Option.some.inj H
    go_enter Tryd.func47, Tryd.ntmps47
    go_wp2
    go_ret
    exact ⟨by first | rfl | (simp; done) | (simp [*]; done), by repeat (first | exact Drawn0.refl _ | apply Drawn0.step)⟩
   ·
    rw [if_neg c5] at H
    exact absurd H (by simp)
  ·
   rw [if_neg c4] at H
   exact absurd H (by simp)
 ·
  rw [if_neg c3] at H
  have c3b0 : decide ((a1.size : Int) ≤ (a0.size : Int)) = false := decide_eq_false c3
  have c3b1 : decide (a1.size ≤ a0.size) = false := decide_eq_false (fun h => c3 (Int.ofNat_le.mpr h))
  clear c3
  obtain rfl := Option.some.inj H
  go_enter Tryd.func47, Tryd.ntmps47
  go_wp2
  go_ret
  exact ⟨by first | rfl | (simp; done) | (simp [*]; done), by repeat (first | exact Drawn0.refl _ | apply Drawn0.step)⟩

/-! ### strings_HasPrefix: function 26 -/
def strings_HasPrefix.f (a0 : ByteArray) (a1 : ByteArray) : Option (Bool) := (stringslite_HasPrefix.f a0 a1).bind fun t101 => (some t101)
set_option maxHeartbeats 8000000 in
set_option maxRecDepth 100000 in
theorem strings_HasPrefix.calls (a0 : ByteArray) (a1 : ByteArray) (r : Bool) (w : World) (h : strings_HasPrefix.f a0 a1 = some r) :
  Calls Tryd.prog 26 #[.string a0, .string a1] w fun e w' => e = .returned (.bool r) ∧ Drawn0 w w' := by
 have H : ((stringslite_HasPrefix.f a0 a1).bind fun t101 => (some t101)) = some r := h
 clear h
 replace H := Option.bind_eq_some_iff.mp H
 obtain ⟨t101, A30, H⟩ := H
 replace H : (some t101) = some r := H
 have A3 := Aside0.mk A30
 clear A30
 obtain rfl := Option.some.inj H
 go_enter Tryd.func26, Tryd.ntmps26
 go_wp2_with (first | ((with_reducible refine gate_callee (f := 47) rfl ?_); refine goesL_ (some 7) rfl rfl Tryd.func47 (by kernel_rfl) rfl #[.string a0, .string a1] rfl (by (try simp only [List.map_toArray, List.map_cons, List.map_nil]); first | done | rfl | (simp only [List.length_drop, List.length_take]; rfl)) ?_; (with_reducible refine (stringslite_HasPrefix.calls a0 a1 t101 _ A3.out).mono ?_); rintro e w' ⟨rfl, ⟨nd, rfl⟩⟩; refine ⟨_, rfl, ?_⟩))
 go_ret
 exact ⟨by first | rfl | (simp; done) | (simp [*]; done), by repeat (first | exact Drawn0.refl _ | apply Drawn0.step)⟩

-- NOT PRINTED: function 66 (bytealg_IndexByteString)

-- NOT PRINTED: function 48 (stringslite_IndexByte)

-- NOT PRINTED: function 27 (strings_IndexByte)

-- NOT PRINTED: function 67 (bytealg_IndexString)

/-! ### lex_skip -/
theorem wp_scope_label {P : Program} {a : Act} {w : World} {Q : Exit → Act → World → Prop} {rest : Code} (l : Nat) (J : Act → World → Prop) (μ : Act → World → Nat) (hJ : J a w)
    (pass : ∀ a w, J a w → rest.wp P (Exit.jump l (fun a' w' => J a' w' ∧ μ a' w' < μ a w) Q) a w) : (Code.scope ((Code.label l).seq rest)).wp P Q a w := by
  refine wp_scope_jumps l J μ (rest := (Code.skip).seq rest) (by simp [findLabel]) ?_ ?_
  · refine wp_seq (wp_label ?_)
    refine wp_mono (pass a w hJ) ?_
    intro e a' w' h
    cases e <;> first | exact h | exact ⟨h.1, h.2.1⟩
  · intro a w h
    exact wp_seq (wp_skip (pass a w h))
theorem lex_skip.prefix_is (s p : ByteArray) : strings_HasPrefix.f s p = some ((s.extract 0 p.size).toList == p.toList) := by
  unfold strings_HasPrefix.f stringslite_HasPrefix.f
  by_cases h : (s.size : Int) ≥ (p.size : Int)
  · rw [if_pos h, if_pos (by omega), if_pos (by omega)]
    rfl
  · rw [if_neg h]
    have : ((s.extract 0 p.size).toList == p.toList) = false := by
      rw [beq_eq_false_iff_ne]
      intro e
      have := congrArg List.length e
      rw [Lib.toList_data, Lib.toList_data, ← Lib.size_eq, ← Lib.size_eq, ByteArray.size_extract] at this
      omega
    rw [this]
    rfl
/-- Do the two bytes x, y stand at place i? -/
def lex_skip.two (s : ByteArray) (i : Nat) (x y : UInt8) : Bool := ((s.extract i s.size).extract 0 2).toList == [x, y]
theorem lex_skip.two_size {s : ByteArray} {i : Nat} {x y : UInt8} (h : lex_skip.two s i x y = true) : i + 2 ≤ s.size := by
  unfold lex_skip.two at h
  have h := congrArg List.length (eq_of_beq h)
  rw [Lib.toList_data, ← Lib.size_eq, ByteArray.size_extract, ByteArray.size_extract] at h
  simp at h
  omega
theorem lex_skip.two_is (s : ByteArray) (i : Nat) (x y : UInt8) : strings_HasPrefix.f (s.extract i s.size) (⟨#[x, y]⟩ : ByteArray) = some (lex_skip.two s i x y) := by
  rw [lex_skip.prefix_is, Lib.toList_data ⟨#[x, y]⟩]
  rfl
/-- What 'skip' passes over, from place i on. -/
def lex_skip.go : Nat → ByteArray → Nat → Option (Int × Bool)
  | 0, _, _ => none
  | k + 1, s, i => if s.size ≤ i then some ((i : Int), true) else if bt s i = 9 ∨ bt s i = 10 ∨ bt s i = 13 ∨ bt s i = 32 then lex_skip.go k s (i + 1) else if lex_skip.two s i 47 47 = true then (if Lib.indexByte (s.extract i s.size).data.toList 10 < 0 then some ((s.size : Int), true) else lex_skip.go k s (i + (Lib.indexByte (s.extract i s.size).data.toList 10).toNat)) else if lex_skip.two s i 47 42 = true then (if Lib.index (s.extract (i + 2) s.size).data.toList [42, 47] < 0 then some ((i : Int), false) else lex_skip.go k s (i + 4 + (Lib.index (s.extract (i + 2) s.size).data.toList [42, 47]).toNat)) else some ((i : Int), true)
def lex_skip.f (a0 : ByteArray) (a1 : Int) : Option (Int × Bool) := if 0 ≤ a1 ∧ a1 ≤ 4294967281 ∧ a0.size < 4294967281 then lex_skip.go (a0.size + 1) a0 a1.toNat else none
theorem lex_skip.indexByte_lt : ∀ (l : List UInt8) (c : UInt8), Lib.indexByte l c < (l.length : Int) + 1
  | [], _ => by simp [Lib.indexByte]
  | b :: l, c => by
    have := lex_skip.indexByte_lt l c
    rw [Lib.indexByte]
    repeat' split
    all_goals simp only [List.length_cons]; omega
theorem lex_skip.index_lt : ∀ (l sub : List UInt8), Lib.index l sub < (l.length : Int) + 1
  | [], _ => by rw [Lib.index]; split <;> simp
  | b :: l, sub => by
    have := lex_skip.index_lt l sub
    rw [Lib.index]
    repeat' split
    all_goals simp only [List.length_cons]; omega
theorem lex_skip.two_head {s : ByteArray} {i : Nat} {x y : UInt8} (h : lex_skip.two s i x y = true) : ∃ r, (s.extract i s.size).data.toList = x :: y :: r := by
  unfold lex_skip.two at h
  have h := eq_of_beq h
  rw [Lib.toList_data, Lib.extract_data] at h
  simp only [List.drop_zero] at h
  match hl : (s.extract i s.size).data.toList with
  | [] => rw [hl] at h; cases h
  | [a] => rw [hl] at h; cases h
  | a :: b :: r => rw [hl] at h; simp at h; obtain ⟨rfl, rfl⟩ := h; exact ⟨r, rfl⟩
theorem lex_skip.line {s : ByteArray} {i : Nat} (h : lex_skip.two s i 47 47 = true) (h0 : ¬ Lib.indexByte (s.extract i s.size).data.toList 10 < 0) : ∃ m : Nat, Lib.indexByte (s.extract i s.size).data.toList 10 = m ∧ 1 ≤ m ∧ i + m ≤ s.size := by
  have hl := lex_skip.indexByte_lt (s.extract i s.size).data.toList 10
  have h2 := lex_skip.two_size h
  obtain ⟨r, hr⟩ := lex_skip.two_head h
  rw [← Lib.size_eq, ByteArray.size_extract] at hl
  have hne : Lib.indexByte (s.extract i s.size).data.toList 10 ≠ 0 := by
    have hg := Lib.indexByte_ge (47 :: r) 10
    rw [hr, Lib.indexByte, if_neg (by decide)]
    split
    · decide
    · rename_i h; intro e; apply h; rw [beq_iff_eq]; omega
  exact ⟨(Lib.indexByte (s.extract i s.size).data.toList 10).toNat, by omega, by omega, by omega⟩
theorem lex_skip.note {s : ByteArray} {i : Nat} (h : i + 2 ≤ s.size) (h0 : ¬ Lib.index (s.extract (i + 2) s.size).data.toList [42, 47] < 0) : ∃ m : Nat, Lib.index (s.extract (i + 2) s.size).data.toList [42, 47] = m ∧ i + 2 + m ≤ s.size := by
  have hl := lex_skip.index_lt (s.extract (i + 2) s.size).data.toList [42, 47]
  rw [← Lib.size_eq, ByteArray.size_extract] at hl
  exact ⟨(Lib.index (s.extract (i + 2) s.size).data.toList [42, 47]).toNat, by omega, by omega⟩
def lex_skip.intOf : Value → Int | .int _ q => q | _ => 0
set_option maxHeartbeats 8000000 in
set_option maxRecDepth 100000 in
theorem lex_skip.calls (a0 : ByteArray) (a1 : Int) (r1 : Int) (r2 : Bool) (w : World) [GW w] (h : lex_skip.f a0 a1 = some (r1, r2)) :
    Calls Tryd.prog 19 #[.string a0, .int .i64 a1] w fun e w' => e = .returned (.tuple #[.int .i64 r1, .bool r2]) ∧ Below w.heap.size w w' := by
  unfold lex_skip.f at h
  split at h
  · rename_i hc
    obtain ⟨h0, h1, hs⟩ := hc
    obtain ⟨i0, rfl⟩ : ∃ n : Nat, a1 = n := ⟨a1.toNat, by omega⟩
    rw [Int.toNat_natCast] at h
    obtain ⟨ml, hml⟩ := (GW.ml (w := w))
    have H0 := Aside0.mk h
    have HS := Aside0.mk hs
    have HI : Aside0 ((i0 : Int) ≤ 4294967290) := ⟨by omega⟩
    clear h h0 h1 hs
    have HB := Aside0.mk (Below.refl w.heap.size w)
    go_enter Tryd.func19, Tryd.ntmps19
    go_wp2
    refine wp_scope_label 0 (fun a1 w1 => ∃ (i k : Nat) (u2 u3 u4 u5 u6 u7 u8 u9 u10 u11 u12 u13 u14 u15 u16 u17 u18 u19 u20 u21 u22 u23 u24 u25 u26 u27 u28 u29 u30 u31 u32 u33 u34 u35 u36 u37 u38 u39 u40 u41 u42 u43 u44 u45 u46 u47 u48 u49 u50 u51 u52 u53 u54 : Value), a1 = { tmps := (.string a0 :: .int .i64 (i : Int) :: u2 :: u3 :: u4 :: u5 :: u6 :: u7 :: u8 :: u9 :: u10 :: u11 :: u12 :: u13 :: u14 :: u15 :: u16 :: u17 :: u18 :: u19 :: u20 :: u21 :: u22 :: u23 :: u24 :: u25 :: u26 :: u27 :: u28 :: u29 :: u30 :: u31 :: u32 :: u33 :: u34 :: u35 :: u36 :: u37 :: u38 :: u39 :: u40 :: u41 :: u42 :: u43 :: u44 :: u45 :: u46 :: u47 :: u48 :: u49 :: u50 :: u51 :: u52 :: u53 :: u54 :: []).toArray, defers := [] } ∧ Aside0 (Below w.heap.size w w1) ∧ Aside0 (lex_skip.go k a0 i = some (r1, r2)) ∧ Aside0 ((i : Int) ≤ 4294967290)) (fun a1 _ => a0.size - (lex_skip.intOf (a1.tmps.getD 1 undef)).toNat) ?_ ?_
    · exact ⟨i0, _, _, _, _, _, _, _, _, _, _, _, _, _, _, _, _, _, _, _, _, _, _, _, _, _, _, _, _, _, _, _, _, _, _, _, _, _, _, _, _, _, _, _, _, _, _, _, _, _, _, _, _, _, _, rfl, HB, H0, HI⟩
    · clear H0 HI HB
      rintro a' w' ⟨i, k, u2, u3, u4, u5, u6, u7, u8, u9, u10, u11, u12, u13, u14, u15, u16, u17, u18, u19, u20, u21, u22, u23, u24, u25, u26, u27, u28, u29, u30, u31, u32, u33, u34, u35, u36, u37, u38, u39, u40, u41, u42, u43, u44, u45, u46, u47, u48, u49, u50, u51, u52, u53, u54, rfl, HB, HG, HI⟩
      haveI := GW.of HB.out
      obtain ⟨k, rfl⟩ : ∃ n, k = n + 1 := by
        cases k with
        | zero => have := HG.out; simp [lex_skip.go] at this
        | succ n => exact ⟨n, rfl⟩
      have hi := HI.out
      have hsz := HS.out
      have hg := HG.out
      rw [lex_skip.go] at hg
      clear HG
      by_cases c1 : a0.size ≤ i
      · rw [if_pos c1] at hg
        simp only [Option.some.injEq, Prod.mk.injEq] at hg
        obtain ⟨rfl, rfl⟩ := hg
        have c1b : decide ((a0.size : Int) ≤ (i : Int)) = true := decide_eq_true (by omega)
        go_wp2
        simp only [Exit.jump]
        go_ret2
        exact ⟨rfl, HB.out⟩
      · rw [if_neg c1] at hg
        have c1b : decide ((a0.size : Int) ≤ (i : Int)) = false := decide_eq_false (by omega)
        have p1 : 0 ≤ (i : Int) := by omega
        have q1 : (i : Int) < (a0.size : Int) := by omega
        have hx1 : ∀ h : i < a0.size, ((a0[i]'h).toNat : Int) = bt a0 (i : Int) := bt_at a0 (i : Int)
        have q1n : i < a0.size := by omega
        replace q1n := eq_true q1n
        have p1b : decide (0 ≤ (i : Int)) = true := decide_eq_true p1
        have q1b : decide ((i : Int) ≤ (a0.size : Int)) = true := decide_eq_true (by omega)
        replace p1 := eq_true p1
        replace q1 := eq_true q1
        by_cases c2 : bt a0 i = 9 ∨ bt a0 i = 10 ∨ bt a0 i = 13 ∨ bt a0 i = 32
        · rw [if_pos c2] at hg
          have HG := Aside0.mk hg
          have hb : (bt a0 i == 9) = true ∨ ((bt a0 i == 9) = false ∧ (bt a0 i == 10) = true) ∨ ((bt a0 i == 9) = false ∧ (bt a0 i == 10) = false ∧ (bt a0 i == 13) = true) ∨ ((bt a0 i == 9) = false ∧ (bt a0 i == 10) = false ∧ (bt a0 i == 13) = false ∧ (bt a0 i == 32) = true) := by
            simp only [beq_iff_eq, beq_eq_false_iff_ne]
            omega
          have hw : wrap64 ((i : Int) + 1) = ((i + 1 : Nat) : Int) := by unfold wrap64; omega
          clear hg c2
          rcases hb with e1 | ⟨e1, e2⟩ | ⟨e1, e2, e3⟩ | ⟨e1, e2, e3, e4⟩
          all_goals
            go_wp2
            go_step3
            simp only [Exit.inBlock, Exit.then, Exit.jump]
            rw [show ((i : Int) + 1) = ((i + 1 : Nat) : Int) by omega]
            exact ⟨rfl, ⟨_, k, _, _, _, _, _, _, _, _, _, _, _, _, _, _, _, _, _, _, _, _, _, _, _, _, _, _, _, _, _, _, _, _, _, _, _, _, _, _, _, _, _, _, _, _, _, _, _, _, _, _, _, _, _, rfl, HB, HG, ⟨by omega⟩⟩, by simp [lex_skip.intOf]; omega⟩
        · rw [if_neg c2] at hg
          have e1 : (bt a0 i == 9) = false := beq_eq_false_iff_ne.2 (by omega)
          have e2 : (bt a0 i == 10) = false := beq_eq_false_iff_ne.2 (by omega)
          have e3 : (bt a0 i == 13) = false := beq_eq_false_iff_ne.2 (by omega)
          have e4 : (bt a0 i == 32) = false := beq_eq_false_iff_ne.2 (by omega)
          have HG := Aside0.mk hg
          clear hg c2 hi hsz
          go_wp2_with (go_at_call 26; refine (strings_HasPrefix.calls (a0.extract i a0.size) (⟨#[47, 47]⟩ : ByteArray) _ _ (lex_skip.two_is a0 i 47 47)).mono ?_)
          rintro e W1 ⟨rfl, hd⟩
          have HB := Aside0.mk (below_step HB.out hd.below)
          haveI := GW.of HB.out
          clear hd
          have hg := HG.out
          clear HG
          have hi := HI.out
          have hsz := HS.out
          by_cases c3 : lex_skip.two a0 i 47 47 = true
          · rw [if_pos c3] at hg
            have hC := Tryd.strings_IndexByte (a0.extract i a0.size) 10 W1
            rw [show (10 : Int).toNat.toUInt8 = 10 by decide] at hC
            by_cases c4 : Lib.indexByte (a0.extract i a0.size).data.toList 10 < 0
            · rw [if_pos c4] at hg
              simp only [Option.some.injEq, Prod.mk.injEq] at hg
              obtain ⟨rfl, rfl⟩ := hg
              obtain ⟨n, hn⟩ : ∃ n, Lib.indexByte (a0.extract i a0.size).data.toList 10 = n := ⟨_, rfl⟩
              rw [hn] at hC c4
              clear hn
              have c4b : decide (n < 0) = true := decide_eq_true c4
              go_wp2_with (go_at_call 27; refine hC.mono ?_)
              rintro e W2 ⟨rfl, rfl⟩
              go_wp2
              simp only [Exit.jump]
              go_ret2
              exact ⟨rfl, HB.out⟩
            · rw [if_neg c4] at hg
              obtain ⟨m, hm, hm1, hm2⟩ := lex_skip.line c3 c4
              rw [hm] at hg hC
              rw [Int.toNat_natCast] at hg
              have HG := Aside0.mk hg
              have c4b : decide ((m : Int) < 0) = false := decide_eq_false (by omega)
              have hw : wrap64 ((i : Int) + (m : Int)) = ((i + m : Nat) : Int) := by unfold wrap64; omega
              clear hg c4 hm
              go_wp2_with (go_at_call 27; refine hC.mono ?_)
              rintro e W2 ⟨rfl, rfl⟩
              clear hC
              go_wp2
              go_step3
              simp only [Exit.inBlock, Exit.then, Exit.jump]
              rw [show ((i : Int) + (m : Int)) = ((i + m : Nat) : Int) by omega]
              exact ⟨rfl, ⟨_, k, _, _, _, _, _, _, _, _, _, _, _, _, _, _, _, _, _, _, _, _, _, _, _, _, _, _, _, _, _, _, _, _, _, _, _, _, _, _, _, _, _, _, _, _, _, _, _, _, _, _, _, _, _, rfl, HB, HG, ⟨by omega⟩⟩, by simp [lex_skip.intOf]; omega⟩
          · rw [if_neg c3] at hg
            have c3b : lex_skip.two a0 i 47 47 = false := by simpa using c3
            have HG := Aside0.mk hg
            clear hg c3 hi hsz
            go_wp2_with (go_at_call 26; refine (strings_HasPrefix.calls (a0.extract i a0.size) (⟨#[47, 42]⟩ : ByteArray) _ _ (lex_skip.two_is a0 i 47 42)).mono ?_)
            rintro e W2 ⟨rfl, hd⟩
            have HB := Aside0.mk (below_step HB.out hd.below)
            haveI := GW.of HB.out
            clear hd
            have hg := HG.out
            clear HG
            have hi := HI.out
            have hsz := HS.out
            by_cases c5 : lex_skip.two a0 i 47 42 = true
            · rw [if_pos c5] at hg
              have h2 := lex_skip.two_size c5
              obtain ⟨ml2, hml2⟩ := (GW.ml (w := W2))
              have hC := Tryd.strings_Index (a0.extract (i + 2) a0.size) (⟨#[42, 47]⟩ : ByteArray) ml2 W2 (by rw [ByteArray.size_extract]; omega) hml2
              clear hml2
              rw [show (⟨#[42, 47]⟩ : ByteArray).data.toList = [42, 47] from rfl] at hC
              have p2 : ((i + 2 : Nat) : Int) ≤ (a0.size : Int) := by omega
              have hw2 : wrap64 ((i : Int) + 2) = ((i + 2 : Nat) : Int) := by unfold wrap64; omega
              by_cases c6 : Lib.index (a0.extract (i + 2) a0.size).data.toList [42, 47] < 0
              · rw [if_pos c6] at hg
                simp only [Option.some.injEq, Prod.mk.injEq] at hg
                obtain ⟨rfl, rfl⟩ := hg
                obtain ⟨n, hn⟩ : ∃ n, Lib.index (a0.extract (i + 2) a0.size).data.toList [42, 47] = n := ⟨_, rfl⟩
                rw [hn] at hC c6
                clear hn
                have c6b : decide (n < 0) = true := decide_eq_true c6
                go_wp2_with (go_at_call 28; refine hC.mono ?_)
                rintro e W3 ⟨rfl, rfl⟩
                go_wp2
                simp only [Exit.jump]
                go_ret2
                exact ⟨rfl, HB.out⟩
              · rw [if_neg c6] at hg
                obtain ⟨m, hm, hm2⟩ := lex_skip.note h2 c6
                rw [hm] at hg hC
                rw [Int.toNat_natCast] at hg
                have HG := Aside0.mk hg
                have c6b : decide ((m : Int) < 0) = false := decide_eq_false (by omega)
                have hw : wrap64 ((i : Int) + wrap64 ((m : Int) + 4)) = ((i + 4 + m : Nat) : Int) := by unfold wrap64; omega
                clear hg c6 hm
                go_wp2_with (go_at_call 28; refine hC.mono ?_)
                rintro e W3 ⟨rfl, rfl⟩
                clear hC
                go_wp2
                go_step3
                simp only [Exit.inBlock, Exit.then, Exit.jump]
                rw [show ((i : Int) + ((m : Int) + 4)) = ((i + 4 + m : Nat) : Int) by omega]
                exact ⟨rfl, ⟨_, k, _, _, _, _, _, _, _, _, _, _, _, _, _, _, _, _, _, _, _, _, _, _, _, _, _, _, _, _, _, _, _, _, _, _, _, _, _, _, _, _, _, _, _, _, _, _, _, _, _, _, _, _, _, rfl, HB, HG, ⟨by omega⟩⟩, by simp [lex_skip.intOf]; omega⟩
            · rw [if_neg c5] at hg
              have c5b : lex_skip.two a0 i 47 42 = false := by simpa using c5
              simp only [Option.some.injEq, Prod.mk.injEq] at hg
              obtain ⟨rfl, rfl⟩ := hg
              go_wp2
              simp only [Exit.jump]
              go_ret2
              exact ⟨rfl, HB.out⟩
  · cases h
/-! ### utf8_DecodeRuneInString -/
def utf8_DecodeRuneInString.f (a0 : ByteArray) : Option (Int × Int) := some (((Lib.decodeGo a0).1 : Int), ((Lib.decodeGo a0).2 : Int))
theorem utf8_DecodeRuneInString.calls (a0 : ByteArray) (r1 : Int) (r2 : Int) (w : World) [GW w] (h : utf8_DecodeRuneInString.f a0 = some (r1, r2)) :
    Calls Tryd.prog 50 #[.string a0] w fun e w' => e = .returned (.tuple #[.int .i32 r1, .int .i64 r2]) ∧ Below w.heap.size w w' := by
  unfold utf8_DecodeRuneInString.f at h
  simp only [Option.some.injEq, Prod.mk.injEq] at h
  obtain ⟨rfl, rfl⟩ := h
  exact Tryd.utf8_DecodeRuneInString a0 w GW.u8
/-! ### runes_Letter: function 51 -/
mutual
def runes_Letter.j0 : Nat → Int → Bool → Option (Bool)
 | 0, _, _ => none
 | k + 1, x0, x3 => if x3 = true then (runes_Letter.j1 k x0 x3) else (if x0 ≥ 65 then (runes_Letter.j1 k x0 (decide (x0 ≤ 90))) else (runes_Letter.j1 k x0 false))
def runes_Letter.j1 : Nat → Int → Bool → Option (Bool)
 | 0, _, _ => none
 | k + 1, x0, x3 => if x3 = true then (some true) else (if x0 ≥ 192 then (runes_Letter.j2 k x0 (decide (x0 ≤ 591))) else (runes_Letter.j2 k x0 false))
def runes_Letter.j2 : Nat → Int → Bool → Option (Bool)
 | 0, _, _ => none
 | k + 1, x0, x16 => if x16 = true then (if x0 = 215 then (some false) else (some (x0 != 247))) else (if x0 ≥ 913 then (if x0 ≤ 969 then (some (x0 != 930)) else (if x0 ≥ 1040 then (some (decide (x0 ≤ 1103))) else (some false))) else (if x0 ≥ 1040 then (some (decide (x0 ≤ 1103))) else (some false)))
end
def runes_Letter.f (k : Nat) (a0 : Int) : Option (Bool) := if a0 ≥ 97 then (runes_Letter.j0 k a0 (decide (a0 ≤ 122))) else (runes_Letter.j0 k a0 false)
theorem runes_Letter.mono_l : ∀ k, (∀ y0 y1, LeO (runes_Letter.j0 k y0 y1) (runes_Letter.j0 (k + 1) y0 y1)) ∧ (∀ y0 y1, LeO (runes_Letter.j1 k y0 y1) (runes_Letter.j1 (k + 1) y0 y1)) ∧ (∀ y0 y1, LeO (runes_Letter.j2 k y0 y1) (runes_Letter.j2 (k + 1) y0 y1))
 | 0 => ⟨fun _ _ r h => by simp [runes_Letter.j0] at h, fun _ _ r h => by simp [runes_Letter.j1] at h, fun _ _ r h => by simp [runes_Letter.j2] at h⟩
 | k + 1 => by
  obtain ⟨ih0, ih1, ih2⟩ := runes_Letter.mono_l k
  refine ⟨?_, ?_, ?_⟩
  ·
   intro y0 y1
   unfold runes_Letter.j0
   repeat' first
   | (with_reducible exact ih0 _ _)
   | (with_reducible exact ih1 _ _)
   | (with_reducible exact ih2 _ _)
   | (with_reducible exact LeO.refl _)
   | (with_reducible exact LeO.none _)
   | (with_reducible refine LeO.ite ?_ ?_)
   | (with_reducible refine LeO.bind ?_ (fun _ => ?_))
   | exact ih0 _ _
   | exact ih1 _ _
   | exact ih2 _ _
   | exact LeO.none _
   | refine LeO.ite ?_ ?_
   | refine LeO.bind ?_ (fun _ => ?_)
  ·
   intro y0 y1
   unfold runes_Letter.j1
   repeat' first
   | (with_reducible exact ih0 _ _)
   | (with_reducible exact ih1 _ _)
   | (with_reducible exact ih2 _ _)
   | (with_reducible exact LeO.refl _)
   | (with_reducible exact LeO.none _)
   | (with_reducible refine LeO.ite ?_ ?_)
   | (with_reducible refine LeO.bind ?_ (fun _ => ?_))
   | exact ih0 _ _
   | exact ih1 _ _
   | exact ih2 _ _
   | exact LeO.none _
   | refine LeO.ite ?_ ?_
   | refine LeO.bind ?_ (fun _ => ?_)
  ·
   intro y0 y1
   unfold runes_Letter.j2
   repeat' first
   | (with_reducible exact ih0 _ _)
   | (with_reducible exact ih1 _ _)
   | (with_reducible exact ih2 _ _)
   | (with_reducible exact LeO.refl _)
   | (with_reducible exact LeO.none _)
   | (with_reducible refine LeO.ite ?_ ?_)
   | (with_reducible refine LeO.bind ?_ (fun _ => ?_))
   | exact ih0 _ _
   | exact ih1 _ _
   | exact ih2 _ _
   | exact LeO.none _
   | refine LeO.ite ?_ ?_
   | refine LeO.bind ?_ (fun _ => ?_)
theorem runes_Letter.mono : ∀ a0 k, LeO (runes_Letter.f k a0) (runes_Letter.f (k + 1) a0) := by
 intro a0 k
 obtain ⟨ih0, ih1, ih2⟩ := runes_Letter.mono_l k
 unfold runes_Letter.f
 repeat' first
   | (with_reducible exact ih0 _ _)
   | (with_reducible exact ih1 _ _)
   | (with_reducible exact ih2 _ _)
   | (with_reducible exact LeO.refl _)
   | (with_reducible exact LeO.none _)
   | (with_reducible refine LeO.ite ?_ ?_)
   | (with_reducible refine LeO.bind ?_ (fun _ => ?_))
   | exact ih0 _ _
   | exact ih1 _ _
   | exact ih2 _ _
   | exact LeO.none _
   | refine LeO.ite ?_ ?_
   | refine LeO.bind ?_ (fun _ => ?_)
set_option maxHeartbeats 8000000 in
set_option maxRecDepth 100000 in
theorem runes_Letter.calls (k : Nat) (a0 : Int) (r : Bool) (w : World) (h : runes_Letter.f k a0 = some r) :
  Calls Tryd.prog 51 #[.int .i32 a0] w fun e w' => e = .returned (.bool r) ∧ Drawn0 w w' := by
 have H : (if a0 ≥ 97 then (runes_Letter.j0 k a0 (decide (a0 ≤ 122))) else (runes_Letter.j0 k a0 false)) = some r := h
 clear h
 have HC2 := Aside0.mk H
 clear H
 go_enter Tryd.func51, Tryd.ntmps51
 go_upto_region 1 with (fail)
 go_cut [3] (fun v3 wc => ∃ (kq : Nat) (x3_1 : Bool), v3 = .bool x3_1 ∧ Aside0 (runes_Letter.j0 kq a0 x3_1 = some r) ∧ Aside0 (kq ≤ k) ∧ Drawn0 w wc)
 case first =>
  have H := HC2.out
  clear HC2
  by_cases c3 : a0 ≥ 97
  ·
   rw [if_pos c3] at H
   have c3b0 : decide (97 ≤ a0) = true := decide_eq_true c3
   clear c3
   (first | rw [c3b0] | (simp only [i64_w, i32_w]; rw [c3b0]) | skip)
   have H' := Aside0.mk H
   clear H
   go_wp2
   go_meet
   case rel => exact ⟨_, (decide (a0 ≤ 122)), (by first | rfl | (simp; done) | (simp [*]; done)), H', ⟨by first | omega | exact Nat.le_refl _⟩, by repeat (first | exact Drawn0.refl _ | apply Drawn0.step)⟩
  ·
   rw [if_neg c3] at H
   have c3b0 : decide (97 ≤ a0) = false := decide_eq_false c3
   clear c3
   (first | rw [c3b0] | (simp only [i64_w, i32_w]; rw [c3b0]) | skip)
   have H' := Aside0.mk H
   clear H
   go_wp2
   go_meet
   case rel => exact ⟨_, (false), (by first | rfl | (simp; done) | (simp [*]; done)), H', ⟨by first | omega | exact Nat.le_refl _⟩, by repeat (first | exact Drawn0.refl _ | apply Drawn0.step)⟩
 case rest =>
  clear HC2
  try clear p2
  try clear c3
  try clear c3b0
  obtain ⟨kq, x3_1, rfl, HA, HJ1, ⟨mc1, rfl⟩⟩ := hcut
  cases kq with
  | zero => exact absurd HA.out (by simp [runes_Letter.j0])
  | succ kj1 =>
   have H := HA.out
   clear HA
   simp only [runes_Letter.j0] at H
   have HC4 := Aside0.mk H
   clear H
   go_upto_if 3 with (fail)
   go_cut [3] (fun v3 wc => ∃ (kq : Nat) (x3_3 : Bool), v3 = .bool x3_3 ∧ Aside0 (runes_Letter.j1 kq a0 x3_3 = some r) ∧ Aside0 (kq ≤ kj1) ∧ Drawn0 w wc)
   case first =>
    have H := HC4.out
    clear HC4
    by_cases c5 : x3_1 = true
    ·
     subst c5
     have H1 : (runes_Letter.j1 kj1 a0 true) = some r := by rw [if_pos rfl] at H; exact H
     clear H
     have H := H1
     clear H1
     have H' := Aside0.mk H
     clear H
     go_wp2
     go_meet
     case rel => exact ⟨_, (true), (by first | rfl | (simp; done) | (simp [*]; done)), H', ⟨by have := HJ1.out; first | omega | exact Nat.le_refl _⟩, by repeat (first | exact Drawn0.refl _ | apply Drawn0.step)⟩
    ·
     replace c5 := Bool.eq_false_iff.mpr c5
     subst c5
     have H1 : (if a0 ≥ 65 then (runes_Letter.j1 kj1 a0 (decide (a0 ≤ 90))) else (runes_Letter.j1 kj1 a0 false)) = some r := by rw [if_neg (show ¬ (false = true) by decide)] at H; exact H
     clear H
     have H := H1
     clear H1
     by_cases c6 : a0 ≥ 65
     ·
      rw [if_pos c6] at H
      have c6b0 : decide (65 ≤ a0) = true := decide_eq_true c6
      clear c6
      (first | rw [c6b0] | (simp only [i64_w, i32_w]; rw [c6b0]) | skip)
      have H' := Aside0.mk H
      clear H
      go_wp2
      go_meet
      case rel => exact ⟨_, (decide (a0 ≤ 90)), (by first | rfl | (simp; done) | (simp [*]; done)), H', ⟨by have := HJ1.out; first | omega | exact Nat.le_refl _⟩, by repeat (first | exact Drawn0.refl _ | apply Drawn0.step)⟩
     ·
      rw [if_neg c6] at H
      have c6b0 : decide (65 ≤ a0) = false := decide_eq_false c6
      clear c6
      (first | rw [c6b0] | (simp only [i64_w, i32_w]; rw [c6b0]) | skip)
      have H' := Aside0.mk H
      clear H
      go_wp2
      go_meet
      case rel => exact ⟨_, (false), (by first | rfl | (simp; done) | (simp [*]; done)), H', ⟨by have := HJ1.out; first | omega | exact Nat.le_refl _⟩, by repeat (first | exact Drawn0.refl _ | apply Drawn0.step)⟩
   case rest =>
    clear HC4
    try clear c1
    try clear p2
    try clear c3
    try clear c3b0
    try clear c5
    try clear c6
    try clear c6b0
    try clear p2
    obtain ⟨kq, x3_3, rfl, HA, HJ3, ⟨mc3, rfl⟩⟩ := hcut
    cases kq with
    | zero => exact absurd HA.out (by simp [runes_Letter.j1])
    | succ kj3 =>
     have H := HA.out
     clear HA
     simp only [runes_Letter.j1] at H
     by_cases c7 : x3_3 = true
     ·
      subst c7
      have H1 : (some true) = some r := by rw [if_pos rfl] at H; exact H
      clear H
      have H := H1
      clear H1
      obtain rfl := Option.some.inj H
      go_wp2
      go_ret
      exact ⟨by first | rfl | (simp; done) | (simp [*]; done), by repeat (first | exact Drawn0.refl _ | apply Drawn0.step)⟩
     ·
      replace c7 := Bool.eq_false_iff.mpr c7
      subst c7
      have H1 : (if a0 ≥ 192 then (runes_Letter.j2 kj3 a0 (decide (a0 ≤ 591))) else (runes_Letter.j2 kj3 a0 false)) = some r := by rw [if_neg (show ¬ (false = true) by decide)] at H; exact H
      clear H
      have H := H1
      clear H1
      have HC8 := Aside0.mk H
      clear H
      go_upto_region 4 with (fail)
      go_cut [16] (fun v16 wc => ∃ (kq : Nat) (x16_7 : Bool), v16 = .bool x16_7 ∧ Aside0 (runes_Letter.j2 kq a0 x16_7 = some r) ∧ Aside0 (kq ≤ kj3) ∧ Drawn0 w wc)
      case first =>
       have H := HC8.out
       clear HC8
       by_cases c9 : a0 ≥ 192
       ·
        rw [if_pos c9] at H
        have c9b0 : decide (192 ≤ a0) = true := decide_eq_true c9
        clear c9
        (first | rw [c9b0] | (simp only [i64_w, i32_w]; rw [c9b0]) | skip)
        have H' := Aside0.mk H
        clear H
        go_wp2
        go_meet
        case rel => exact ⟨_, (decide (a0 ≤ 591)), (by first | rfl | (simp; done) | (simp [*]; done)), H', ⟨by have := HJ1.out; have := HJ3.out; first | omega | exact Nat.le_refl _⟩, by repeat (first | exact Drawn0.refl _ | apply Drawn0.step)⟩
       ·
        rw [if_neg c9] at H
        have c9b0 : decide (192 ≤ a0) = false := decide_eq_false c9
        clear c9
        (first | rw [c9b0] | (simp only [i64_w, i32_w]; rw [c9b0]) | skip)
        have H' := Aside0.mk H
        clear H
        go_wp2
        go_meet
        case rel => exact ⟨_, (false), (by first | rfl | (simp; done) | (simp [*]; done)), H', ⟨by have := HJ1.out; have := HJ3.out; first | omega | exact Nat.le_refl _⟩, by repeat (first | exact Drawn0.refl _ | apply Drawn0.step)⟩
      case rest =>
       clear HC8
       try clear c1
       try clear p2
       try clear c3
       try clear c3b0
       try clear c5
       try clear c6
       try clear c6b0
       try clear c7
       try clear c9
       try clear c9b0
       try clear p2
       obtain ⟨kq, x16_7, rfl, HA, HJ7, ⟨mc7, rfl⟩⟩ := hcut
       cases kq with
       | zero => exact absurd HA.out (by simp [runes_Letter.j2])
       | succ kj7 =>
        have H := HA.out
        clear HA
        simp only [runes_Letter.j2] at H
        by_cases c10 : x16_7 = true
        ·
         subst c10
         have H1 : (if a0 = 215 then (some false) else (some (a0 != 247))) = some r := by rw [if_pos rfl] at H; exact H
         clear H
         have H := H1
         clear H1
         by_cases c11 : a0 = 215
         ·
          rw [if_pos c11] at H
          have c11b0 : (a0 == 215) = true := beq_iff_eq.mpr c11
          have c11b1 : (a0 != 215) = false := bne_eq_false_iff_eq.mpr c11
          clear c11
          obtain rfl := Option.some.inj H
          go_wp2
          go_ret
          exact ⟨by first | rfl | (simp; done) | (simp [*]; done), by repeat (first | exact Drawn0.refl _ | apply Drawn0.step)⟩
         ·
          rw [if_neg c11] at H
          have c11b0 : (a0 == 215) = false := beq_eq_false_iff_ne.mpr c11
          have c11b1 : (a0 != 215) = true := bne_iff_ne.mpr c11
          obtain rfl := Option.some.inj H
          go_wp2
          go_ret
          exact ⟨by first | rfl | (simp; done) | (simp [*]; done), by repeat (first | exact Drawn0.refl _ | apply Drawn0.step)⟩
        ·
         replace c10 := Bool.eq_false_iff.mpr c10
         subst c10
         have H1 : (if a0 ≥ 913 then (if a0 ≤ 969 then (some (a0 != 930)) else (if a0 ≥ 1040 then (some (decide (a0 ≤ 1103))) else (some false))) else (if a0 ≥ 1040 then (some (decide (a0 ≤ 1103))) else (some false))) = some r := by rw [if_neg (show ¬ (false = true) by decide)] at H; exact H
         clear H
         have H := H1
         clear H1
         by_cases c12 : a0 ≥ 913
         ·
          rw [if_pos c12] at H
          have c12b0 : decide (913 ≤ a0) = true := decide_eq_true c12
          clear c12
          by_cases c13 : a0 ≤ 969
          ·
           rw [if_pos c13] at H
           have c13b0 : decide (a0 ≤ 969) = true := decide_eq_true c13
           clear c13
           obtain rfl := Option.some.inj H
           go_wp2
           go_ret
           exact ⟨by first | rfl | (simp; done) | (simp [*]; done), by repeat (first | exact Drawn0.refl _ | apply Drawn0.step)⟩
          ·
           rw [if_neg c13] at H
           have c13b0 : decide (a0 ≤ 969) = false := decide_eq_false c13
           clear c13
           by_cases c14 : a0 ≥ 1040
           ·
            rw [if_pos c14] at H
            have c14b0 : decide (1040 ≤ a0) = true := decide_eq_true c14
            clear c14
            obtain rfl := Option.some.inj H
            go_wp2
            go_ret
            exact ⟨by first | rfl | (simp; done) | (simp [*]; done), by repeat (first | exact Drawn0.refl _ | apply Drawn0.step)⟩
           ·
            rw [if_neg c14] at H
            have c14b0 : decide (1040 ≤ a0) = false := decide_eq_false c14
            clear c14
            obtain rfl := Option.some.inj H
            go_wp2
            go_ret
            exact ⟨by first | rfl | (simp; done) | (simp [*]; done), by repeat (first | exact Drawn0.refl _ | apply Drawn0.step)⟩
         ·
          rw [if_neg c12] at H
          have c12b0 : decide (913 ≤ a0) = false := decide_eq_false c12
          clear c12
          by_cases c15 : a0 ≥ 1040
          ·
           rw [if_pos c15] at H
           have c15b0 : decide (1040 ≤ a0) = true := decide_eq_true c15
           clear c15
           obtain rfl := Option.some.inj H
           go_wp2
           go_ret
           exact ⟨by first | rfl | (simp; done) | (simp [*]; done), by repeat (first | exact Drawn0.refl _ | apply Drawn0.step)⟩
          ·
           rw [if_neg c15] at H
           have c15b0 : decide (1040 ≤ a0) = false := decide_eq_false c15
           clear c15
           obtain rfl := Option.some.inj H
           go_wp2
           go_ret
           exact ⟨by first | rfl | (simp; done) | (simp [*]; done), by repeat (first | exact Drawn0.refl _ | apply Drawn0.step)⟩

/-! ### runes_Digit: function 52 -/
def runes_Digit.f (a0 : Int) : Option (Bool) := if a0 ≥ 48 then (some (decide (a0 ≤ 57))) else (some false)
set_option maxHeartbeats 8000000 in
set_option maxRecDepth 100000 in
theorem runes_Digit.calls (a0 : Int) (r : Bool) (w : World) (h : runes_Digit.f a0 = some r) :
  Calls Tryd.prog 52 #[.int .i32 a0] w fun e w' => e = .returned (.bool r) ∧ Drawn0 w w' := by
 have H : (if a0 ≥ 48 then (some (decide (a0 ≤ 57))) else (some false)) = some r := h
 clear h
 by_cases c2 : a0 ≥ 48
 ·
  rw [if_pos c2] at H
  have c2b0 : decide (48 ≤ a0) = true := decide_eq_true c2
  clear c2
  obtain rfl := Option.some.inj H
  go_enter Tryd.func52, Tryd.ntmps52
  go_wp2
  go_ret
  exact ⟨by first | rfl | (simp; done) | (simp [*]; done), by repeat (first | exact Drawn0.refl _ | apply Drawn0.step)⟩
 ·
  rw [if_neg c2] at H
  have c2b0 : decide (48 ≤ a0) = false := decide_eq_false c2
  clear c2
  obtain rfl := Option.some.inj H
  go_enter Tryd.func52, Tryd.ntmps52
  go_wp2
  go_ret
  exact ⟨by first | rfl | (simp; done) | (simp [*]; done), by repeat (first | exact Drawn0.refl _ | apply Drawn0.step)⟩

/-! ### lex_name: function 29 -/
def lex_name.j0 : Nat → Bool → Bool → Int → Int → Bool → Option (Int)
 | 0, _, _, _, _, _ => none
 | k + 1, x1, x2, x7, x8, x14 => if x14 = true then (some 0) else ((runes_Letter.f k x7).bind fun t112 => (if t112 = true then (some x8) else (if x7 = 95 then (some x8) else (if x1 = true then (if x7 = 36 then (some x8) else (if x2 = true then (some 0) else ((runes_Digit.f x7).bind fun t113 => (if t113 = true then (some x8) else (some 0))))) else (if x2 = true then (some 0) else ((runes_Digit.f x7).bind fun t114 => (if t114 = true then (some x8) else (some 0))))))))
def lex_name.f (k : Nat) (a0 : ByteArray) (a1 : Bool) (a2 : Bool) : Option (Int) := (utf8_DecodeRuneInString.f a0).bind fun bt110 => (if bt110.2 = 0 then (lex_name.j0 k a1 a2 bt110.1 bt110.2 true) else (if bt110.1 = 65533 then (lex_name.j0 k a1 a2 bt110.1 bt110.2 (bt110.2 == 1)) else (lex_name.j0 k a1 a2 bt110.1 bt110.2 false)))
theorem lex_name.mono_l : ∀ k, (∀ y0 y1 y2 y3 y4, LeO (lex_name.j0 k y0 y1 y2 y3 y4) (lex_name.j0 (k + 1) y0 y1 y2 y3 y4))
 | 0 => fun _ _ _ _ _ r h => by simp [lex_name.j0] at h
 | k + 1 => by
  have ih0 := lex_name.mono_l k
  ·
   intro y0 y1 y2 y3 y4
   unfold lex_name.j0
   repeat' first
   | (with_reducible exact ih0 _ _ _ _ _)
   | (with_reducible exact runes_Letter.mono _ _)
   | (with_reducible exact LeO.refl _)
   | (with_reducible exact LeO.none _)
   | (with_reducible refine LeO.ite ?_ ?_)
   | (with_reducible refine LeO.bind ?_ (fun _ => ?_))
   | exact ih0 _ _ _ _ _
   | exact runes_Letter.mono _ _
   | exact LeO.none _
   | refine LeO.ite ?_ ?_
   | refine LeO.bind ?_ (fun _ => ?_)
theorem lex_name.mono : ∀ a0 a1 a2 k, LeO (lex_name.f k a0 a1 a2) (lex_name.f (k + 1) a0 a1 a2) := by
 intro a0 a1 a2 k
 have ih0 := lex_name.mono_l k
 unfold lex_name.f
 repeat' first
   | (with_reducible exact ih0 _ _ _ _ _)
   | (with_reducible exact runes_Letter.mono _ _)
   | (with_reducible exact LeO.refl _)
   | (with_reducible exact LeO.none _)
   | (with_reducible refine LeO.ite ?_ ?_)
   | (with_reducible refine LeO.bind ?_ (fun _ => ?_))
   | exact ih0 _ _ _ _ _
   | exact runes_Letter.mono _ _
   | exact LeO.none _
   | refine LeO.ite ?_ ?_
   | refine LeO.bind ?_ (fun _ => ?_)
set_option maxHeartbeats 8000000 in
set_option maxRecDepth 100000 in
theorem lex_name.calls (k : Nat) (a0 : ByteArray) (a1 : Bool) (a2 : Bool) (r : Int) (w : World) [GW w] (h : lex_name.f k a0 a1 a2 = some r) :
  Calls Tryd.prog 29 #[.string a0, .bool a1, .bool a2] w fun e w' => e = .returned (.int .i64 r) ∧ Below w.heap.size w w' := by
 have HB := Aside0.mk (Below.refl w.heap.size w)
 have H : ((utf8_DecodeRuneInString.f a0).bind fun bt110 => (if bt110.2 = 0 then (lex_name.j0 k a1 a2 bt110.1 bt110.2 true) else (if bt110.1 = 65533 then (lex_name.j0 k a1 a2 bt110.1 bt110.2 (bt110.2 == 1)) else (lex_name.j0 k a1 a2 bt110.1 bt110.2 false)))) = some r := h
 clear h
 replace H := Option.bind_eq_some_iff.mp H
 obtain ⟨⟨t110, t111⟩, A40, H⟩ := H
 replace H : (if t111 = 0 then (lex_name.j0 k a1 a2 t110 t111 true) else (if t110 = 65533 then (lex_name.j0 k a1 a2 t110 t111 (t111 == 1)) else (lex_name.j0 k a1 a2 t110 t111 false))) = some r := H
 have A4 := Aside0.mk A40
 clear A40
 have HC5 := Aside0.mk H
 clear H
 go_enter Tryd.func29, Tryd.ntmps29
 go_upto_region 2 with (first | ((with_reducible refine gate_callee (f := 50) rfl ?_); refine goesL_ (some 11) rfl rfl Tryd.func50 (by kernel_rfl) rfl #[.string a0] rfl (by (try simp only [List.map_toArray, List.map_cons, List.map_nil]); first | done | rfl | (simp only [List.length_drop, List.length_take]; rfl)) ?_; (with_reducible refine (utf8_DecodeRuneInString.calls a0 t110 t111 _ A4.out).mono ?_); rintro e w6 ⟨rfl, hb⟩; refine ⟨_, rfl, ?_⟩; have n0_ := Aside0.mk (below_step (by repeat (first | (with_reducible first | exact HB.out | apply below_alloc | apply pw_below_drewN | apply below_drew1) | exact HB.out)) hb); clear HB; have HB := n0_; haveI := GW.of HB.out; clear n0_; (try clear hb); (try clear hb2); (try clear hk); (try clear hi)))
 (try simp only [Act.put, List.setIfInBounds_toArray, List.set_cons_zero, List.set_cons_succ])
 go_cut [14] (fun v14 wc => ∃ (kq : Nat) (x14_4 : Bool), v14 = .bool x14_4 ∧ Aside0 (lex_name.j0 kq a1 a2 t110 t111 x14_4 = some r) ∧ Aside0 (kq ≤ k) ∧ Aside0 (Below w.heap.size w wc))
 case first =>
  have H := HC5.out
  clear HC5
  by_cases c7 : t111 = 0
  ·
   rw [if_pos c7] at H
   have c7b0 : (t111 == 0) = true := beq_iff_eq.mpr c7
   have c7b1 : (t111 != 0) = false := bne_eq_false_iff_eq.mpr c7
   clear c7
   (first | rw [c7b0] | (simp only [i64_w, i32_w]; rw [c7b0]) | skip)
   have H' := Aside0.mk H
   clear H
   go_wp2
   go_meet
   case rel => exact ⟨_, (true), (by first | rfl | (simp; done) | (simp [*]; done)), H', ⟨by first | omega | exact Nat.le_refl _⟩, ⟨by repeat (first | (with_reducible first | exact HB.out | apply below_alloc | apply pw_below_drewN | apply below_drew1) | exact HB.out)⟩⟩
  ·
   rw [if_neg c7] at H
   have c7b0 : (t111 == 0) = false := beq_eq_false_iff_ne.mpr c7
   have c7b1 : (t111 != 0) = true := bne_iff_ne.mpr c7
   (first | rw [c7b0] | (simp only [i64_w, i32_w]; rw [c7b0]) | skip)
   by_cases c8 : t110 = 65533
   ·
    rw [if_pos c8] at H
    have c8b0 : (t110 == 65533) = true := beq_iff_eq.mpr c8
    have c8b1 : (t110 != 65533) = false := bne_eq_false_iff_eq.mpr c8
    clear c8
    have H' := Aside0.mk H
    clear H
    go_wp2
    go_meet
    case rel => exact ⟨_, ((t111 == 1)), (by first | rfl | (simp; done) | (simp [*]; done)), H', ⟨by first | omega | exact Nat.le_refl _⟩, ⟨by repeat (first | (with_reducible first | exact HB.out | apply below_alloc | apply pw_below_drewN | apply below_drew1) | exact HB.out)⟩⟩
   ·
    rw [if_neg c8] at H
    have c8b0 : (t110 == 65533) = false := beq_eq_false_iff_ne.mpr c8
    have c8b1 : (t110 != 65533) = true := bne_iff_ne.mpr c8
    have H' := Aside0.mk H
    clear H
    go_wp2
    go_meet
    case rel => exact ⟨_, (false), (by first | rfl | (simp; done) | (simp [*]; done)), H', ⟨by first | omega | exact Nat.le_refl _⟩, ⟨by repeat (first | (with_reducible first | exact HB.out | apply below_alloc | apply pw_below_drewN | apply below_drew1) | exact HB.out)⟩⟩
 case rest =>
  clear HC5
  try clear c2
  try clear p2
  try clear c5
  try clear c7
  try clear c7b0
  try clear c7b1
  try clear c8
  try clear c8b0
  try clear c8b1
  obtain ⟨kq, x14_4, rfl, HA, HJ4, HB⟩ := hcut; haveI := GW.of HB.out
  cases kq with
  | zero => exact absurd HA.out (by simp [lex_name.j0])
  | succ kj4 =>
   have H := HA.out
   clear HA
   simp only [lex_name.j0] at H
   by_cases c9 : x14_4 = true
   ·
    subst c9
    have H1 : (some 0) = some r := by rw [if_pos rfl] at H; exact H
    clear H
    have H := H1
    clear H1
    obtain rfl := Option.some.inj H
    go_wp2
    go_ret
    exact ⟨by first | rfl | (simp [errW_none, errW_some] <;> rfl) | (simp [*, errW_none, errW_some] <;> rfl), by repeat (first | (with_reducible first | exact HB.out | apply below_alloc | apply pw_below_drewN | apply below_drew1) | exact HB.out)⟩
   ·
    replace c9 := Bool.eq_false_iff.mpr c9
    subst c9
    have H1 : ((runes_Letter.f kj4 t110).bind fun t112 => (if t112 = true then (some t111) else (if t110 = 95 then (some t111) else (if a1 = true then (if t110 = 36 then (some t111) else (if a2 = true then (some 0) else ((runes_Digit.f t110).bind fun t113 => (if t113 = true then (some t111) else (some 0))))) else (if a2 = true then (some 0) else ((runes_Digit.f t110).bind fun t114 => (if t114 = true then (some t111) else (some 0)))))))) = some r := by rw [if_neg (show ¬ (false = true) by decide)] at H; exact H
    clear H
    have H := H1
    clear H1
    replace H := Option.bind_eq_some_iff.mp H
    obtain ⟨t112, A100, H⟩ := H
    replace H : (if t112 = true then (some t111) else (if t110 = 95 then (some t111) else (if a1 = true then (if t110 = 36 then (some t111) else (if a2 = true then (some 0) else ((runes_Digit.f t110).bind fun t113 => (if t113 = true then (some t111) else (some 0))))) else (if a2 = true then (some 0) else ((runes_Digit.f t110).bind fun t114 => (if t114 = true then (some t111) else (some 0))))))) = some r := H
    have A10 := Aside0.mk A100
    clear A100
    by_cases c11 : t112 = true
    ·
     subst c11
     have H1 : (some t111) = some r := by rw [if_pos rfl] at H; exact H
     clear H
     have H := H1
     clear H1
     obtain rfl := Option.some.inj H
     go_wp2_with (first | ((with_reducible refine gate_callee (f := 51) rfl ?_); refine goesL_ (some 27) rfl rfl Tryd.func51 (by kernel_rfl) rfl #[.int .i32 t110] rfl (by (try simp only [List.map_toArray, List.map_cons, List.map_nil]); first | done | rfl | (simp only [List.length_drop, List.length_take]; rfl)) ?_; (with_reducible refine (runes_Letter.calls kj4 t110 true _ A10.out).mono ?_); rintro e w' ⟨rfl, ⟨nd, rfl⟩⟩; refine ⟨_, rfl, ?_⟩))
     go_ret
     exact ⟨by first | rfl | (simp [errW_none, errW_some] <;> rfl) | (simp [*, errW_none, errW_some] <;> rfl), by repeat (first | (with_reducible first | exact HB.out | apply below_alloc | apply pw_below_drewN | apply below_drew1) | exact HB.out)⟩
    ·
     replace c11 := Bool.eq_false_iff.mpr c11
     subst c11
     have H1 : (if t110 = 95 then (some t111) else (if a1 = true then (if t110 = 36 then (some t111) else (if a2 = true then (some 0) else ((runes_Digit.f t110).bind fun t113 => (if t113 = true then (some t111) else (some 0))))) else (if a2 = true then (some 0) else ((runes_Digit.f t110).bind fun t114 => (if t114 = true then (some t111) else (some 0)))))) = some r := by rw [if_neg (show ¬ (false = true) by decide)] at H; exact H
     clear H
     have H := H1
     clear H1
     by_cases c12 : t110 = 95
     ·
      rw [if_pos c12] at H
      have c12b0 : (t110 == 95) = true := beq_iff_eq.mpr c12
      have c12b1 : (t110 != 95) = false := bne_eq_false_iff_eq.mpr c12
      clear c12
      obtain rfl := Option.some.inj H
      go_wp2_with (first | ((with_reducible refine gate_callee (f := 51) rfl ?_); refine goesL_ (some 27) rfl rfl Tryd.func51 (by kernel_rfl) rfl #[.int .i32 t110] rfl (by (try simp only [List.map_toArray, List.map_cons, List.map_nil]); first | done | rfl | (simp only [List.length_drop, List.length_take]; rfl)) ?_; (with_reducible refine (runes_Letter.calls kj4 t110 false _ A10.out).mono ?_); rintro e w' ⟨rfl, ⟨nd, rfl⟩⟩; refine ⟨_, rfl, ?_⟩))
      go_ret
      exact ⟨by first | rfl | (simp [errW_none, errW_some] <;> rfl) | (simp [*, errW_none, errW_some] <;> rfl), by repeat (first | (with_reducible first | exact HB.out | apply below_alloc | apply pw_below_drewN | apply below_drew1) | exact HB.out)⟩
     ·
      rw [if_neg c12] at H
      have c12b0 : (t110 == 95) = false := beq_eq_false_iff_ne.mpr c12
      have c12b1 : (t110 != 95) = true := bne_iff_ne.mpr c12
      by_cases c13 : a1 = true
      ·
       subst c13
       have H1 : (if t110 = 36 then (some t111) else (if a2 = true then (some 0) else ((runes_Digit.f t110).bind fun t113 => (if t113 = true then (some t111) else (some 0))))) = some r := by rw [if_pos rfl] at H; exact H
       clear H
       have H := H1
       clear H1
       by_cases c14 : t110 = 36
       ·
        rw [if_pos c14] at H
        have c14b0 : (t110 == 36) = true := beq_iff_eq.mpr c14
        have c14b1 : (t110 != 36) = false := bne_eq_false_iff_eq.mpr c14
        clear c14
        obtain rfl := Option.some.inj H
        go_wp2_with (first | ((with_reducible refine gate_callee (f := 51) rfl ?_); refine goesL_ (some 27) rfl rfl Tryd.func51 (by kernel_rfl) rfl #[.int .i32 t110] rfl (by (try simp only [List.map_toArray, List.map_cons, List.map_nil]); first | done | rfl | (simp only [List.length_drop, List.length_take]; rfl)) ?_; (with_reducible refine (runes_Letter.calls kj4 t110 false _ A10.out).mono ?_); rintro e w' ⟨rfl, ⟨nd, rfl⟩⟩; refine ⟨_, rfl, ?_⟩))
        go_ret
        exact ⟨by first | rfl | (simp [errW_none, errW_some] <;> rfl) | (simp [*, errW_none, errW_some] <;> rfl), by repeat (first | (with_reducible first | exact HB.out | apply below_alloc | apply pw_below_drewN | apply below_drew1) | exact HB.out)⟩
       ·
        rw [if_neg c14] at H
        have c14b0 : (t110 == 36) = false := beq_eq_false_iff_ne.mpr c14
        have c14b1 : (t110 != 36) = true := bne_iff_ne.mpr c14
        by_cases c15 : a2 = true
        ·
         subst c15
         have H1 : (some 0) = some r := by rw [if_pos rfl] at H; exact H
         clear H
         have H := H1
         clear H1
         obtain rfl := Option.some.inj H
         go_wp2_with (first | ((with_reducible refine gate_callee (f := 51) rfl ?_); refine goesL_ (some 27) rfl rfl Tryd.func51 (by kernel_rfl) rfl #[.int .i32 t110] rfl (by (try simp only [List.map_toArray, List.map_cons, List.map_nil]); first | done | rfl | (simp only [List.length_drop, List.length_take]; rfl)) ?_; (with_reducible refine (runes_Letter.calls kj4 t110 false _ A10.out).mono ?_); rintro e w' ⟨rfl, ⟨nd, rfl⟩⟩; refine ⟨_, rfl, ?_⟩))
         go_ret
         exact ⟨by first | rfl | (simp [errW_none, errW_some] <;> rfl) | (simp [*, errW_none, errW_some] <;> rfl), by repeat (first | (with_reducible first | exact HB.out | apply below_alloc | apply pw_below_drewN | apply below_drew1) | exact HB.out)⟩
        ·
         replace c15 := Bool.eq_false_iff.mpr c15
         subst c15
         have H1 : ((runes_Digit.f t110).bind fun t113 => (if t113 = true then (some t111) else (some 0))) = some r := by rw [if_neg (show ¬ (false = true) by decide)] at H; exact H
         clear H
         have H := H1
         clear H1
         replace H := Option.bind_eq_some_iff.mp H
         obtain ⟨t113, A160, H⟩ := H
         replace H : (if t113 = true then (some t111) else (some 0)) = some r := H
         have A16 := Aside0.mk A160
         clear A160
         by_cases c17 : t113 = true
         ·
          subst c17
          have H1 : (some t111) = some r := by rw [if_pos rfl] at H; exact H
          clear H
          have H := H1
          clear H1
          obtain rfl := Option.some.inj H
          go_wp2_with (first | ((with_reducible refine gate_callee (f := 51) rfl ?_); refine goesL_ (some 27) rfl rfl Tryd.func51 (by kernel_rfl) rfl #[.int .i32 t110] rfl (by (try simp only [List.map_toArray, List.map_cons, List.map_nil]); first | done | rfl | (simp only [List.length_drop, List.length_take]; rfl)) ?_; (with_reducible refine (runes_Letter.calls kj4 t110 false _ A10.out).mono ?_); rintro e w' ⟨rfl, ⟨nd, rfl⟩⟩; refine ⟨_, rfl, ?_⟩) | (go_at_call 52; (with_reducible refine (runes_Digit.calls t110 true _ A16.out).mono ?_); rintro e w' ⟨rfl, ⟨nd, rfl⟩⟩))
          go_ret
          exact ⟨by first | rfl | (simp [errW_none, errW_some] <;> rfl) | (simp [*, errW_none, errW_some] <;> rfl), by repeat (first | (with_reducible first | exact HB.out | apply below_alloc | apply pw_below_drewN | apply below_drew1) | exact HB.out)⟩
         ·
          replace c17 := Bool.eq_false_iff.mpr c17
          subst c17
          have H1 : (some 0) = some r := by rw [if_neg (show ¬ (false = true) by decide)] at H; exact H
          clear H
          have H := H1
          clear H1
          obtain rfl := Option.some.inj H
          go_wp2_with (first | ((with_reducible refine gate_callee (f := 51) rfl ?_); refine goesL_ (some 27) rfl rfl Tryd.func51 (by kernel_rfl) rfl #[.int .i32 t110] rfl (by (try simp only [List.map_toArray, List.map_cons, List.map_nil]); first | done | rfl | (simp only [List.length_drop, List.length_take]; rfl)) ?_; (with_reducible refine (runes_Letter.calls kj4 t110 false _ A10.out).mono ?_); rintro e w' ⟨rfl, ⟨nd, rfl⟩⟩; refine ⟨_, rfl, ?_⟩) | (go_at_call 52; (with_reducible refine (runes_Digit.calls t110 false _ A16.out).mono ?_); rintro e w' ⟨rfl, ⟨nd, rfl⟩⟩))
          go_ret
          exact ⟨by first | rfl | (simp [errW_none, errW_some] <;> rfl) | (simp [*, errW_none, errW_some] <;> rfl), by repeat (first | (with_reducible first | exact HB.out | apply below_alloc | apply pw_below_drewN | apply below_drew1) | exact HB.out)⟩
      ·
       replace c13 := Bool.eq_false_iff.mpr c13
       subst c13
       have H1 : (if a2 = true then (some 0) else ((runes_Digit.f t110).bind fun t114 => (if t114 = true then (some t111) else (some 0)))) = some r := by rw [if_neg (show ¬ (false = true) by decide)] at H; exact H
       clear H
       have H := H1
       clear H1
       by_cases c18 : a2 = true
       ·
        subst c18
        have H1 : (some 0) = some r := by rw [if_pos rfl] at H; exact H
        clear H
        have H := H1
        clear H1
        obtain rfl := Option.some.inj H
        go_wp2_with (first | ((with_reducible refine gate_callee (f := 51) rfl ?_); refine goesL_ (some 27) rfl rfl Tryd.func51 (by kernel_rfl) rfl #[.int .i32 t110] rfl (by (try simp only [List.map_toArray, List.map_cons, List.map_nil]); first | done | rfl | (simp only [List.length_drop, List.length_take]; rfl)) ?_; (with_reducible refine (runes_Letter.calls kj4 t110 false _ A10.out).mono ?_); rintro e w' ⟨rfl, ⟨nd, rfl⟩⟩; refine ⟨_, rfl, ?_⟩))
        go_ret
        exact ⟨by first | rfl | (simp [errW_none, errW_some] <;> rfl) | (simp [*, errW_none, errW_some] <;> rfl), by repeat (first | (with_reducible first | exact HB.out | apply below_alloc | apply pw_below_drewN | apply below_drew1) | exact HB.out)⟩
       ·
        replace c18 := Bool.eq_false_iff.mpr c18
        subst c18
        have H1 : ((runes_Digit.f t110).bind fun t114 => (if t114 = true then (some t111) else (some 0))) = some r := by rw [if_neg (show ¬ (false = true) by decide)] at H; exact H
        clear H
        have H := H1
        clear H1
        replace H := Option.bind_eq_some_iff.mp H
        obtain ⟨t114, A190, H⟩ := H
        replace H : (if t114 = true then (some t111) else (some 0)) = some r := H
        have A19 := Aside0.mk A190
        clear A190
        by_cases c20 : t114 = true
        ·
         subst c20
         have H1 : (some t111) = some r := by rw [if_pos rfl] at H; exact H
         clear H
         have H := H1
         clear H1
         obtain rfl := Option.some.inj H
         go_wp2_with (first | ((with_reducible refine gate_callee (f := 51) rfl ?_); refine goesL_ (some 27) rfl rfl Tryd.func51 (by kernel_rfl) rfl #[.int .i32 t110] rfl (by (try simp only [List.map_toArray, List.map_cons, List.map_nil]); first | done | rfl | (simp only [List.length_drop, List.length_take]; rfl)) ?_; (with_reducible refine (runes_Letter.calls kj4 t110 false _ A10.out).mono ?_); rintro e w' ⟨rfl, ⟨nd, rfl⟩⟩; refine ⟨_, rfl, ?_⟩) | (go_at_call 52; (with_reducible refine (runes_Digit.calls t110 true _ A19.out).mono ?_); rintro e w' ⟨rfl, ⟨nd, rfl⟩⟩))
         go_ret
         exact ⟨by first | rfl | (simp [errW_none, errW_some] <;> rfl) | (simp [*, errW_none, errW_some] <;> rfl), by repeat (first | (with_reducible first | exact HB.out | apply below_alloc | apply pw_below_drewN | apply below_drew1) | exact HB.out)⟩
        ·
         replace c20 := Bool.eq_false_iff.mpr c20
         subst c20
         have H1 : (some 0) = some r := by rw [if_neg (show ¬ (false = true) by decide)] at H; exact H
         clear H
         have H := H1
         clear H1
         obtain rfl := Option.some.inj H
         go_wp2_with (first | ((with_reducible refine gate_callee (f := 51) rfl ?_); refine goesL_ (some 27) rfl rfl Tryd.func51 (by kernel_rfl) rfl #[.int .i32 t110] rfl (by (try simp only [List.map_toArray, List.map_cons, List.map_nil]); first | done | rfl | (simp only [List.length_drop, List.length_take]; rfl)) ?_; (with_reducible refine (runes_Letter.calls kj4 t110 false _ A10.out).mono ?_); rintro e w' ⟨rfl, ⟨nd, rfl⟩⟩; refine ⟨_, rfl, ?_⟩) | (go_at_call 52; (with_reducible refine (runes_Digit.calls t110 false _ A19.out).mono ?_); rintro e w' ⟨rfl, ⟨nd, rfl⟩⟩))
         go_ret
         exact ⟨by first | rfl | (simp [errW_none, errW_some] <;> rfl) | (simp [*, errW_none, errW_some] <;> rfl), by repeat (first | (with_reducible first | exact HB.out | apply below_alloc | apply pw_below_drewN | apply below_drew1) | exact HB.out)⟩

/-! ### lex_Words: function 16 -/
def lex_Words.f  : Option (List ByteArray) := some (([(⟨#[99, 108, 97, 115, 115]⟩ : ByteArray), (⟨#[99, 111, 110, 115, 116]⟩ : ByteArray), (⟨#[100, 101, 102, 97, 117, 108, 116]⟩ : ByteArray), (⟨#[101, 108, 115, 101]⟩ : ByteArray), (⟨#[101, 120, 112, 111, 114, 116]⟩ : ByteArray), (⟨#[102, 97, 108, 115, 101]⟩ : ByteArray), (⟨#[102, 117, 110, 99, 116, 105, 111, 110]⟩ : ByteArray), (⟨#[105, 102]⟩ : ByteArray), (⟨#[105, 109, 112, 111, 114, 116]⟩ : ByteArray), (⟨#[108, 101, 116]⟩ : ByteArray), (⟨#[110, 101, 119]⟩ : ByteArray), (⟨#[110, 117, 108, 108]⟩ : ByteArray), (⟨#[114, 101, 116, 117, 114, 110]⟩ : ByteArray), (⟨#[116, 104, 105, 115]⟩ : ByteArray), (⟨#[116, 104, 114, 111, 119]⟩ : ByteArray), (⟨#[116, 114, 117, 101]⟩ : ByteArray), (⟨#[116, 121, 112, 101, 111, 102]⟩ : ByteArray), (⟨#[117, 110, 100, 101, 102, 105, 110, 101, 100]⟩ : ByteArray), (⟨#[119, 104, 105, 108, 101]⟩ : ByteArray)] : List ByteArray))
set_option maxHeartbeats 8000000 in
set_option maxRecDepth 100000 in
theorem lex_Words.calls  (r : List ByteArray) (w : World) (h : lex_Words.f  = some r) :
  Calls Tryd.prog 16 #[] w fun e w' => ∃ v0_ : Value, e = .returned (v0_) ∧ Kd.R Kd.string 9 w' w.heap.size (fun _ => True) v0_ r ∧ Below w.heap.size w w' := by
 have HB := Aside0.mk (Below.refl w.heap.size w)
 have H : (some (([(⟨#[99, 108, 97, 115, 115]⟩ : ByteArray), (⟨#[99, 111, 110, 115, 116]⟩ : ByteArray), (⟨#[100, 101, 102, 97, 117, 108, 116]⟩ : ByteArray), (⟨#[101, 108, 115, 101]⟩ : ByteArray), (⟨#[101, 120, 112, 111, 114, 116]⟩ : ByteArray), (⟨#[102, 97, 108, 115, 101]⟩ : ByteArray), (⟨#[102, 117, 110, 99, 116, 105, 111, 110]⟩ : ByteArray), (⟨#[105, 102]⟩ : ByteArray), (⟨#[105, 109, 112, 111, 114, 116]⟩ : ByteArray), (⟨#[108, 101, 116]⟩ : ByteArray), (⟨#[110, 101, 119]⟩ : ByteArray), (⟨#[110, 117, 108, 108]⟩ : ByteArray), (⟨#[114, 101, 116, 117, 114, 110]⟩ : ByteArray), (⟨#[116, 104, 105, 115]⟩ : ByteArray), (⟨#[116, 104, 114, 111, 119]⟩ : ByteArray), (⟨#[116, 114, 117, 101]⟩ : ByteArray), (⟨#[116, 121, 112, 101, 111, 102]⟩ : ByteArray), (⟨#[117, 110, 100, 101, 102, 105, 110, 101, 100]⟩ : ByteArray), (⟨#[119, 104, 105, 108, 101]⟩ : ByteArray)] : List ByteArray))) = some r := h
 clear h
 obtain ⟨y115, hy115⟩ : ∃ y_ : List ByteArray, y_ = (([(⟨#[99, 108, 97, 115, 115]⟩ : ByteArray), (⟨#[99, 111, 110, 115, 116]⟩ : ByteArray), (⟨#[100, 101, 102, 97, 117, 108, 116]⟩ : ByteArray), (⟨#[101, 108, 115, 101]⟩ : ByteArray), (⟨#[101, 120, 112, 111, 114, 116]⟩ : ByteArray), (⟨#[102, 97, 108, 115, 101]⟩ : ByteArray), (⟨#[102, 117, 110, 99, 116, 105, 111, 110]⟩ : ByteArray), (⟨#[105, 102]⟩ : ByteArray), (⟨#[105, 109, 112, 111, 114, 116]⟩ : ByteArray), (⟨#[108, 101, 116]⟩ : ByteArray), (⟨#[110, 101, 119]⟩ : ByteArray), (⟨#[110, 117, 108, 108]⟩ : ByteArray), (⟨#[114, 101, 116, 117, 114, 110]⟩ : ByteArray), (⟨#[116, 104, 105, 115]⟩ : ByteArray), (⟨#[116, 104, 114, 111, 119]⟩ : ByteArray), (⟨#[116, 114, 117, 101]⟩ : ByteArray), (⟨#[116, 121, 112, 101, 111, 102]⟩ : ByteArray), (⟨#[117, 110, 100, 101, 102, 105, 110, 101, 100]⟩ : ByteArray), (⟨#[119, 104, 105, 108, 101]⟩ : ByteArray)] : List ByteArray)) := ⟨_, rfl⟩
 replace H : (some y115) = some r := by first | (rw [hy115]; with_reducible exact H) | (have H2_ := (Option.bind_some _ _).symm.trans H; rw [hy115]; with_reducible exact H2_) | (have H2_ := (Option.bind_some _ _).symm.trans H; with_reducible exact H2_) | with_reducible exact H | (rw [hy115]; exact H) | exact H
 have Ny115 := Aside0.mk hy115
 clear hy115
 obtain rfl := Option.some.inj H
 go_enter Tryd.func16, Tryd.ntmps16
 go_wp2_with (first | ((with_reducible refine gate_dst (N := 1) rfl ?_); refine Kd.R_lit Kd.string _ 9 ?hg (N := 1) ?hd (xs := ([(⟨#[99, 108, 97, 115, 115]⟩ : ByteArray), (⟨#[99, 111, 110, 115, 116]⟩ : ByteArray), (⟨#[100, 101, 102, 97, 117, 108, 116]⟩ : ByteArray), (⟨#[101, 108, 115, 101]⟩ : ByteArray), (⟨#[101, 120, 112, 111, 114, 116]⟩ : ByteArray), (⟨#[102, 97, 108, 115, 101]⟩ : ByteArray), (⟨#[102, 117, 110, 99, 116, 105, 111, 110]⟩ : ByteArray), (⟨#[105, 102]⟩ : ByteArray), (⟨#[105, 109, 112, 111, 114, 116]⟩ : ByteArray), (⟨#[108, 101, 116]⟩ : ByteArray), (⟨#[110, 101, 119]⟩ : ByteArray), (⟨#[110, 117, 108, 108]⟩ : ByteArray), (⟨#[114, 101, 116, 117, 114, 110]⟩ : ByteArray), (⟨#[116, 104, 105, 115]⟩ : ByteArray), (⟨#[116, 104, 114, 111, 119]⟩ : ByteArray), (⟨#[116, 114, 117, 101]⟩ : ByteArray), (⟨#[116, 121, 112, 101, 111, 102]⟩ : ByteArray), (⟨#[117, 110, 100, 101, 102, 105, 110, 101, 100]⟩ : ByteArray), (⟨#[119, 104, 105, 108, 101]⟩ : ByteArray)] : List ByteArray)) (inner := [.string (⟨#[99, 108, 97, 115, 115]⟩ : ByteArray), .string (⟨#[99, 111, 110, 115, 116]⟩ : ByteArray), .string (⟨#[100, 101, 102, 97, 117, 108, 116]⟩ : ByteArray), .string (⟨#[101, 108, 115, 101]⟩ : ByteArray), .string (⟨#[101, 120, 112, 111, 114, 116]⟩ : ByteArray), .string (⟨#[102, 97, 108, 115, 101]⟩ : ByteArray), .string (⟨#[102, 117, 110, 99, 116, 105, 111, 110]⟩ : ByteArray), .string (⟨#[105, 102]⟩ : ByteArray), .string (⟨#[105, 109, 112, 111, 114, 116]⟩ : ByteArray), .string (⟨#[108, 101, 116]⟩ : ByteArray), .string (⟨#[110, 101, 119]⟩ : ByteArray), .string (⟨#[110, 117, 108, 108]⟩ : ByteArray), .string (⟨#[114, 101, 116, 117, 114, 110]⟩ : ByteArray), .string (⟨#[116, 104, 105, 115]⟩ : ByteArray), .string (⟨#[116, 104, 114, 111, 119]⟩ : ByteArray), .string (⟨#[116, 114, 117, 101]⟩ : ByteArray), .string (⟨#[116, 121, 112, 101, 111, 102]⟩ : ByteArray), .string (⟨#[117, 110, 100, 101, 102, 105, 110, 101, 100]⟩ : ByteArray), .string (⟨#[119, 104, 105, 108, 101]⟩ : ByteArray)]) (ok := fun _ => True) (okp := fun _ => True) ?hr ?hp (fun _ hk => hk) trivial (Below.refl _ _) (Nat.le_refl _) (by simp) ?_; (case hd => rfl); (case hg => rfl); (case hr => first | (go_simp; done) | (go_simp; rfl)); (case hp => exact (Reps.one (show Kd.M Kd.string _ _ _ (⟨#[99, 108, 97, 115, 115]⟩ : ByteArray) [.string (⟨#[99, 108, 97, 115, 115]⟩ : ByteArray)] from rfl) (Reps.one (show Kd.M Kd.string _ _ _ (⟨#[99, 111, 110, 115, 116]⟩ : ByteArray) [.string (⟨#[99, 111, 110, 115, 116]⟩ : ByteArray)] from rfl) (Reps.one (show Kd.M Kd.string _ _ _ (⟨#[100, 101, 102, 97, 117, 108, 116]⟩ : ByteArray) [.string (⟨#[100, 101, 102, 97, 117, 108, 116]⟩ : ByteArray)] from rfl) (Reps.one (show Kd.M Kd.string _ _ _ (⟨#[101, 108, 115, 101]⟩ : ByteArray) [.string (⟨#[101, 108, 115, 101]⟩ : ByteArray)] from rfl) (Reps.one (show Kd.M Kd.string _ _ _ (⟨#[101, 120, 112, 111, 114, 116]⟩ : ByteArray) [.string (⟨#[101, 120, 112, 111, 114, 116]⟩ : ByteArray)] from rfl) (Reps.one (show Kd.M Kd.string _ _ _ (⟨#[102, 97, 108, 115, 101]⟩ : ByteArray) [.string (⟨#[102, 97, 108, 115, 101]⟩ : ByteArray)] from rfl) (Reps.one (show Kd.M Kd.string _ _ _ (⟨#[102, 117, 110, 99, 116, 105, 111, 110]⟩ : ByteArray) [.string (⟨#[102, 117, 110, 99, 116, 105, 111, 110]⟩ : ByteArray)] from rfl) (Reps.one (show Kd.M Kd.string _ _ _ (⟨#[105, 102]⟩ : ByteArray) [.string (⟨#[105, 102]⟩ : ByteArray)] from rfl) (Reps.one (show Kd.M Kd.string _ _ _ (⟨#[105, 109, 112, 111, 114, 116]⟩ : ByteArray) [.string (⟨#[105, 109, 112, 111, 114, 116]⟩ : ByteArray)] from rfl) (Reps.one (show Kd.M Kd.string _ _ _ (⟨#[108, 101, 116]⟩ : ByteArray) [.string (⟨#[108, 101, 116]⟩ : ByteArray)] from rfl) (Reps.one (show Kd.M Kd.string _ _ _ (⟨#[110, 101, 119]⟩ : ByteArray) [.string (⟨#[110, 101, 119]⟩ : ByteArray)] from rfl) (Reps.one (show Kd.M Kd.string _ _ _ (⟨#[110, 117, 108, 108]⟩ : ByteArray) [.string (⟨#[110, 117, 108, 108]⟩ : ByteArray)] from rfl) (Reps.one (show Kd.M Kd.string _ _ _ (⟨#[114, 101, 116, 117, 114, 110]⟩ : ByteArray) [.string (⟨#[114, 101, 116, 117, 114, 110]⟩ : ByteArray)] from rfl) (Reps.one (show Kd.M Kd.string _ _ _ (⟨#[116, 104, 105, 115]⟩ : ByteArray) [.string (⟨#[116, 104, 105, 115]⟩ : ByteArray)] from rfl) (Reps.one (show Kd.M Kd.string _ _ _ (⟨#[116, 104, 114, 111, 119]⟩ : ByteArray) [.string (⟨#[116, 104, 114, 111, 119]⟩ : ByteArray)] from rfl) (Reps.one (show Kd.M Kd.string _ _ _ (⟨#[116, 114, 117, 101]⟩ : ByteArray) [.string (⟨#[116, 114, 117, 101]⟩ : ByteArray)] from rfl) (Reps.one (show Kd.M Kd.string _ _ _ (⟨#[116, 121, 112, 101, 111, 102]⟩ : ByteArray) [.string (⟨#[116, 121, 112, 101, 111, 102]⟩ : ByteArray)] from rfl) (Reps.one (show Kd.M Kd.string _ _ _ (⟨#[117, 110, 100, 101, 102, 105, 110, 101, 100]⟩ : ByteArray) [.string (⟨#[117, 110, 100, 101, 102, 105, 110, 101, 100]⟩ : ByteArray)] from rfl) (Reps.one (show Kd.M Kd.string _ _ _ (⟨#[119, 104, 105, 108, 101]⟩ : ByteArray) [.string (⟨#[119, 104, 105, 108, 101]⟩ : ByteArray)] from rfl) (Reps.none _ _))))))))))))))))))))); intro v116 w1 ho2 hb hg_ hnew_; clear hg_ hnew_; (first | rw [← Ny115.out] at ho2 | (simp only [Int.reduceToNat] at ho2; rw [← Ny115.out] at ho2)); have n0_ := Aside0.mk (Kd.R_lower ho2 (below_size (by repeat (first | (with_reducible first | exact HB.out | apply below_alloc | apply pw_below_drewN | apply below_drew1) | exact HB.out)))); have n1_ := Aside0.mk (below_step (by repeat (first | (with_reducible first | exact HB.out | apply below_alloc | apply pw_below_drewN | apply below_drew1) | exact HB.out)) hb); clear HB; have HO117 := n0_; have HB := n1_; clear n0_ n1_; clear hb ho2))
 go_ret
 exact ⟨_, by first | rfl | (simp [errW_none, errW_some] <;> rfl) | (simp [*, errW_none, errW_some] <;> rfl), by (with_reducible repeat (first | apply Kd.R_alloc | apply Kd.R_drewN | apply Kd.R_drew)); exact HO117.out, by repeat (first | (with_reducible first | exact HB.out | apply below_alloc | apply pw_below_drewN | apply below_drew1) | exact HB.out)⟩


end Go.Proofs.YtbnpgobjbokboaaDoor.PLex
