/- What 'escape' reads. -/
import Derived.Test.YtbnpgobjbokboaaDoorHexIdx
namespace Go.Proofs.YtbnpgobjbokboaaDoor.PLex
open Go.RowKit Go.Proofs.YtbnpgobjbokboaaDoorW.PrintWords Go.Proofs.YtbnpgobjbokboaaDoorW.PrintLast Go.Proofs.YtbnpgobjbokboaaDoorW.PrintMore
set_option linter.unusedVariables false
set_option linter.unusedSimpArgs false
def escVal (c : Nat) : Int := if 48 ≤ c ∧ c ≤ 57 then (c : Int) - 48 else if 65 ≤ c ∧ c ≤ 70 then (c : Int) - 55 else if 97 ≤ c ∧ c ≤ 102 then (c : Int) - 87 else -1
def escNum : List UInt8 → Nat → Option Nat
  | [], n => some n
  | c :: r, n => if escVal c.toNat < 0 then none else escNum r (16 * n + (escVal c.toNat).toNat)
def escU (s : ByteArray) : ByteArray × Int :=
  if s.size < 4 ∨ bt s 1 ≠ 123 ∨ Lib.indexByte s.data.toList 125 < 3 ∨ 8 < Lib.indexByte s.data.toList 125 then (⟨#[]⟩, 0)
  else match escNum (s.extract 2 (Lib.indexByte s.data.toList 125).toNat).data.toList 0 with
    | none => (⟨#[]⟩, 0)
    | some n => if Lib.validRune (n : Int) = true then (Utf8.encode (n : Int), Lib.indexByte s.data.toList 125 + 1) else (⟨#[]⟩, 0)
def escOf (s : ByteArray) : ByteArray × Int :=
  if s.size = 0 then (⟨#[]⟩, 0)
  else if bt s 0 = 110 then (⟨#[10]⟩, 1)
  else if bt s 0 = 116 then (⟨#[9]⟩, 1)
  else if bt s 0 = 34 ∨ bt s 0 = 39 ∨ bt s 0 = 92 then (s.extract 0 1, 1)
  else if bt s 0 = 117 then escU s else (⟨#[]⟩, 0)
theorem decode_valid (s : ByteArray) (pos : Nat) : Utf8.valid ((Utf8.decode s pos).1 : Int) = true := by
  unfold Utf8.decode
  simp only
  repeat' split
  all_goals first
    | (rename_i h; simp only [Bool.and_eq_true] at h; exact h.2)
    | (unfold Utf8.valid Utf8.runeError; decide)
    | (unfold Utf8.valid; simp only [Bool.or_eq_true, Bool.and_eq_true, decide_eq_true_eq]; omega)
theorem or_i32 (c : Nat) (h : c ≤ 1114111) : bits .or .i32 (c : Int) 32 = ((c ||| 32 : Nat) : Int) := by
  have hx : c ||| 32 < 2 ^ 21 := Nat.or_lt_two_pow (by omega) (by omega)
  show IntKind.i32.wrap ((BitVec.ofInt 32 (c : Int) ||| BitVec.ofInt 32 ((32 : Nat) : Int)).toNat : Int) = _
  rw [BitVec.toNat_or, ofInt_u32 c (by omega), ofInt_u32 32 (by omega), IntKind.wrap_i32]
  omega
theorem or_div (c : Nat) : (c ||| 32) / 64 = c / 64 := by
  have : (c ||| 32) >>> 6 = c >>> 6 := by
    rw [Nat.shiftRight_or_distrib]
    simp
  rwa [Nat.shiftRight_eq_div_pow, Nat.shiftRight_eq_div_pow] at this
theorem or_valid (c : Nat) (h : Utf8.valid (c : Int) = true) (h2 : 128 ≤ c) : 128 ≤ c ||| 32 ∧ Utf8.valid ((c ||| 32 : Nat) : Int) = true ∧ c ≤ 1114111 := by
  have h3 := or_div c
  have h4 : c ≤ c ||| 32 := Nat.left_le_or
  unfold Utf8.valid at *
  simp only [Bool.or_eq_true, Bool.and_eq_true, decide_eq_true_eq] at h ⊢
  omega
theorem dig_low (c : Nat) (h : c < 128) : (escVal c < 0 → Lib.indexByte hexs.data.toList (c ||| 32).toUInt8 < 0 ∨ c < 48 ∨ (57 < c ∧ c < 65)) ∧ (¬ escVal c < 0 → Lib.indexByte hexs.data.toList (c ||| 32).toUInt8 = escVal c ∧ 48 ≤ c ∧ ¬ (57 < c ∧ c < 65) ∧ escVal c < 16) ∧ c ||| 32 < 128 := by
  have : ∀ x : Fin 128, (escVal x.val < 0 → Lib.indexByte hexs.data.toList (x.val ||| 32).toUInt8 < 0 ∨ x.val < 48 ∨ (57 < x.val ∧ x.val < 65)) ∧ (¬ escVal x.val < 0 → Lib.indexByte hexs.data.toList (x.val ||| 32).toUInt8 = escVal x.val ∧ 48 ≤ x.val ∧ ¬ (57 < x.val ∧ x.val < 65) ∧ escVal x.val < 16) ∧ x.val ||| 32 < 128 := by decide +kernel
  exact this ⟨c, h⟩
theorem escNum_high (c : UInt8) (r : List UInt8) (n : Nat) (h : 128 ≤ c.toNat) : escNum (c :: r) n = none := by
  rw [escNum, if_pos]
  unfold escVal
  repeat' split
  all_goals omega
theorem indexByte_lt' : ∀ (l : List UInt8) (c : UInt8), Lib.indexByte l c < (l.length : Int) + 1
  | [], _ => by simp [Lib.indexByte]
  | b :: l, c => by
    have := indexByte_lt' l c
    rw [Lib.indexByte]
    repeat' split
    all_goals simp only [List.length_cons]; omega
theorem idx_hi (r : Nat) (h : 128 ≤ r) (hv : Utf8.valid (r : Int) = true) (w : World) : Calls Tryd.prog 73 #[.string (⟨#[48, 49, 50, 51, 52, 53, 54, 55, 56, 57, 97, 98, 99, 100, 101, 102]⟩ : ByteArray), .int .i32 r] w fun e w' => e = .returned (.int .i64 (-1)) ∧ Below w.heap.size w w' := by
  by_cases hr : r = 65533
  · subst hr
    exact idx_err w
  · exact idx_high r h hv hr w
theorem idx_lo (c : Nat) (h : c < 128) (w : World) : Calls Tryd.prog 73 #[.string (⟨#[48, 49, 50, 51, 52, 53, 54, 55, 56, 57, 97, 98, 99, 100, 101, 102]⟩ : ByteArray), .int .i32 (c : Int)] w fun e w' => e = .returned (.int .i64 (Lib.indexByte hexs.data.toList c.toUInt8)) ∧ w' = w := by
  have := Tryd.strings_IndexRune_ascii (⟨#[48, 49, 50, 51, 52, 53, 54, 55, 56, 57, 97, 98, 99, 100, 101, 102]⟩ : ByteArray) (c : Int) w (by omega) (by omega)
  rw [Int.toNat_natCast] at this
  exact this
set_option maxHeartbeats 8000000 in
set_option maxRecDepth 100000 in
theorem runes_escape.calls (a0 : ByteArray) (w : World) (hs : a0.size ≤ 1099511627776) :
    Calls Tryd.prog 54 #[.string a0] w fun e w' => e = .returned (.tuple #[.string (escOf a0).1, .int .i64 (escOf a0).2]) ∧ Below w.heap.size w w' := by
  have HS := Aside0.mk hs
  by_cases h0 : a0.size = 0
  · have hE : a0 = ⟨#[]⟩ := by
      apply ByteArray.ext
      exact Array.eq_empty_of_size_eq_zero h0
    subst hE
    go_enter Tryd.func54, Tryd.ntmps54
    go_wp2
    go_ret2
    exact ⟨rfl, Below.refl _ _⟩
  · have hne : (a0.toList == ([] : List UInt8)) = false := by
      rw [beq_eq_false_iff_ne]
      intro e
      apply h0
      rw [Lib.size_eq, ← Lib.toList_data, e]
      rfl
    have hne2 : a0.toList.isEmpty = false := by simpa using hne
    have hx : ∀ h : 0 < a0.size, ((a0[0]'h).toNat : Int) = bt a0 0 := bt_at a0 0
    have q0 : (0 < a0.size) = True := eq_true (by omega)
    have qi0 : (0 < (a0.size : Int)) = True := eq_true (by omega)
    have hO : escOf a0 = if bt a0 0 = 110 then (⟨#[10]⟩, 1) else if bt a0 0 = 116 then (⟨#[9]⟩, 1) else if bt a0 0 = 34 ∨ bt a0 0 = 39 ∨ bt a0 0 = 92 then (a0.extract 0 1, 1) else if bt a0 0 = 117 then escU a0 else (⟨#[]⟩, 0) := by
      unfold escOf
      rw [if_neg h0]
    by_cases c1 : bt a0 0 = 110
    · rw [hO, if_pos c1]
      have e1 : (bt a0 0 == 110) = true := beq_iff_eq.2 c1
      clear c1 hO
      go_enter Tryd.func54, Tryd.ntmps54
      go_wp2
      go_ret2
      exact ⟨rfl, Below.refl _ _⟩
    · rw [if_neg c1] at hO
      have e1 : (bt a0 0 == 110) = false := beq_eq_false_iff_ne.2 c1
      by_cases c2 : bt a0 0 = 116
      · rw [hO, if_pos c2]
        have e2 : (bt a0 0 == 116) = true := beq_iff_eq.2 c2
        clear c1 c2 hO
        go_enter Tryd.func54, Tryd.ntmps54
        go_wp2
        go_ret2
        exact ⟨rfl, Below.refl _ _⟩
      · rw [if_neg c2] at hO
        have e2 : (bt a0 0 == 116) = false := beq_eq_false_iff_ne.2 c2
        by_cases c3 : bt a0 0 = 34 ∨ bt a0 0 = 39 ∨ bt a0 0 = 92
        · rw [hO, if_pos c3]
          have e3 : (bt a0 0 == 34) = true ∨ ((bt a0 0 == 34) = false ∧ (bt a0 0 == 39) = true) ∨ ((bt a0 0 == 34) = false ∧ (bt a0 0 == 39) = false ∧ (bt a0 0 == 92) = true) := by
            simp only [beq_iff_eq, beq_eq_false_iff_ne]
            omega
          have s1 : decide ((1 : Int) ≤ (a0.size : Int)) = true := decide_eq_true (by omega)
          clear c1 c2 c3 hO
          rcases e3 with e3 | ⟨e3, e4⟩ | ⟨e3, e4, e5⟩
          all_goals
            go_enter Tryd.func54, Tryd.ntmps54
            go_wp2
            go_ret2
            exact ⟨rfl, Below.refl _ _⟩
        · rw [if_neg c3] at hO
          have e3 : (bt a0 0 == 34) = false := beq_eq_false_iff_ne.2 (by omega)
          have e4 : (bt a0 0 == 39) = false := beq_eq_false_iff_ne.2 (by omega)
          have e5 : (bt a0 0 == 92) = false := beq_eq_false_iff_ne.2 (by omega)
          by_cases c4 : bt a0 0 = 117
          · rw [hO, if_pos c4]
            have e6 : (bt a0 0 == 117) = true := beq_iff_eq.2 c4
            clear c1 c2 c3 c4 hO
            have hC := fun W => Tryd.strings_IndexByte a0 125 W
            rw [show (125 : Int).toNat.toUInt8 = 125 by decide] at hC
            unfold escU
            obtain ⟨E, hE⟩ : ∃ E, Lib.indexByte a0.data.toList 125 = E := ⟨_, rfl⟩
            rw [hE] at hC ⊢
            have HC := Aside0.mk hC
            have HE := Aside0.mk hE
            clear hC hE
            by_cases c1 : a0.size < 4 ∨ bt a0 1 ≠ 123 ∨ E < 3 ∨ 8 < E
            · rw [if_pos c1]
              have hx1 : ∀ h : 1 < a0.size, ((a0[1]'h).toNat : Int) = bt a0 1 := bt_at a0 1
              have hb : decide ((a0.size : Int) < 4) = true ∨ (decide ((a0.size : Int) < 4) = false ∧ (bt a0 1 != 123) = true) ∨ (decide ((a0.size : Int) < 4) = false ∧ (bt a0 1 != 123) = false ∧ decide (E < 3) = true) ∨ (decide ((a0.size : Int) < 4) = false ∧ (bt a0 1 != 123) = false ∧ decide (E < 3) = false ∧ decide (8 < E) = true) := by
                simp only [decide_eq_true_eq, decide_eq_false_iff_not, bne_iff_ne, bne_eq_false_iff_eq]
                omega
              have q1 : decide ((a0.size : Int) < 4) = false → ((1 < a0.size) = True ∧ (1 < (a0.size : Int)) = True) := fun h => by
                have := of_decide_eq_false h
                exact ⟨eq_true (by omega), eq_true (by omega)⟩
              clear c1
              rcases hb with b1 | ⟨b1, b2⟩ | ⟨b1, b2, b3⟩ | ⟨b1, b2, b3, b4⟩
              · clear q1
                go_enter Tryd.func54, Tryd.ntmps54
                go_wp2_with (go_at_call 27; refine (HC.out _).mono ?_; rintro e W1 ⟨rfl, rfl⟩)
                go_ret2
                exact ⟨rfl, Below.refl _ _⟩
              all_goals
                obtain ⟨q1, q2⟩ := q1 b1
                go_enter Tryd.func54, Tryd.ntmps54
                go_wp2_with (go_at_call 27; refine (HC.out _).mono ?_; rintro e W1 ⟨rfl, rfl⟩)
                go_ret2
                exact ⟨rfl, Below.refl _ _⟩
            · rw [if_neg c1]
              obtain ⟨m, rfl⟩ : ∃ m : Nat, E = m := ⟨E.toNat, by omega⟩
              rw [Int.toNat_natCast]
              have hlt := indexByte_lt' a0.data.toList 125
              rw [HE.out, ← Lib.size_eq] at hlt
              obtain ⟨T, hT⟩ : ∃ T, a0.extract 2 m = T := ⟨_, rfl⟩
              have hTs : T.size = m - 2 := by rw [← hT, ByteArray.size_extract]; omega
              obtain ⟨X, hX⟩ : ∃ X, escNum T.data.toList 0 = X := ⟨_, rfl⟩
              rw [hT, hX]
              have hx1 : ∀ h : 1 < a0.size, ((a0[1]'h).toNat : Int) = bt a0 1 := bt_at a0 1
              have b1 : decide ((a0.size : Int) < 4) = false := decide_eq_false (by omega)
              have b2 : (bt a0 1 != 123) = false := bne_eq_false_iff_eq.2 (by omega)
              have b3 : decide ((m : Int) < 3) = false := decide_eq_false (by omega)
              have b4 : decide (8 < (m : Int)) = false := decide_eq_false (by omega)
              have q1 : (1 < a0.size) = True := eq_true (by omega)
              have q2 : (1 < (a0.size : Int)) = True := eq_true (by omega)
              have q3 : decide ((2 : Int) ≤ (m : Int)) = true := decide_eq_true (by omega)
              have q4 : decide ((m : Int) ≤ (a0.size : Int)) = true := decide_eq_true (by omega)
              have HM : Aside0 (3 ≤ m ∧ m ≤ 8) := ⟨by omega⟩
              have hsl : ∀ W, (Instr.slice 9 (.string a0) (some (.int .i64 2)) (some (.int .i64 (m : Int))) none).run Tryd.prog W = .ok (.string T) W := fun W => by
                rw [run_slice_string W 9 a0 .i64 .i64 2 (m : Int) Tryd.underlying9 (by omega) (by omega) (by omega), Int.toNat_natCast]
                show Result.ok (Value.string (a0.extract 2 m)) W = _
                rw [hT]
              have HT := Aside0.mk hTs
              have HX := Aside0.mk hX
              clear c1 hlt hTs hX
              go_enter Tryd.func54, Tryd.ntmps54
              go_wp2_with (go_at_call 27; refine (HC.out _).mono ?_; rintro e W1 ⟨rfl, hW⟩; replace hW := hW.symm; subst hW)
              go_loopw [5] (fun v5 wr => ∃ pos n : Nat, v5 = .int .i32 n ∧ Aside0 (wr.heap[w.heap.size]? = some (.stringIter T pos)) ∧ Aside0 (Below w.heap.size w wr) ∧ Aside0 (escNum (T.data.toList.drop pos) n = X) ∧ Aside0 (pos ≤ T.size ∧ n < 16 ^ pos)) (fun v5 wr => T.size - wr.iterPos w.heap.size)
              case atStart =>
                refine ⟨0, 0, rfl, ⟨World.iter_heap w T 0⟩, ⟨(Below.refl _ _).alloc (Nat.le_refl _) _⟩, ⟨by rw [List.drop_zero]; exact HX.out⟩, ⟨Nat.zero_le _, by decide⟩⟩
              case round =>
                obtain ⟨pos, n, rfl, HIT, HB, HN, HP⟩ := hrel
                have hit := HIT.out
                have hts := HT.out
                have hmm := HM.out
                by_cases hp : pos < T.size
                · have hnx : ∀ ty, (Instr.next (.pointer (some ⟨w.heap.size, 0, none⟩)) true ty).run Tryd.prog wr = _ := fun ty => Lib.run_next_any_at wr w.heap.size T pos ty hit hp
                  have hl : pos < T.data.toList.length := by rw [← Lib.size_eq]; exact hp
                  have hdr : T.data.toList.drop pos = (T[pos]'hp) :: T.data.toList.drop (pos + 1) := List.drop_eq_getElem_cons hl
                  obtain ⟨c, hc⟩ : ∃ c, T[pos]'hp = c := ⟨_, rfl⟩
                  have hn := HN.out
                  rw [hdr, hc] at hn
                  by_cases hlow : c.toNat < 128
                  · have hde := decode_ascii T pos hp (by rw [hc]; exact hlow)
                    rw [hc] at hde
                    obtain ⟨hd1, hd2, hd3⟩ := dig_low c.toNat hlow
                    have hor := or_i32 c.toNat (by omega)
                    obtain ⟨o, ho⟩ : ∃ o, c.toNat ||| 32 = o := ⟨_, rfl⟩
                    rw [ho] at hd1 hd2 hd3 hor
                    obtain ⟨d, hd⟩ : ∃ d, Lib.indexByte hexs.data.toList o.toUInt8 = d := ⟨_, rfl⟩
                    have hC2 := fun W => idx_lo o hd3 W
                    rw [hd] at hd1 hd2 hC2
                    have HC2 := Aside0.mk hC2
                    have HB2 := Aside0.mk (Lib.below_iterAt HB.out (k := w.heap.size) (Nat.le_refl _) T (pos + 1))
                    have HT2 := Aside0.mk (Lib.iterAt_heap wr w.heap.size T pos (pos + 1) hit)
                    rw [hde] at hnx
                    rw [escNum] at hn
                    clear hC2 hd ho hdr hit hde
                    by_cases hv : escVal c.toNat < 0
                    · rw [if_pos hv] at hn
                      subst hn
                      have hd1 := hd1 hv
                      have hb : decide (d < 0) = true ∨ (decide (d < 0) = false ∧ decide ((c.toNat : Int) < 48) = true) ∨ (decide (d < 0) = false ∧ decide ((c.toNat : Int) < 48) = false ∧ decide (57 < (c.toNat : Int)) = true ∧ decide ((c.toNat : Int) < 65) = true) := by
                        simp only [decide_eq_true_eq, decide_eq_false_iff_not]
                        omega
                      clear hd1 hd2 hd3 hv
                      rcases hb with b5 | ⟨b5, b6⟩ | ⟨b5, b6, b7, b8⟩
                      all_goals
                        go_wp2_with (go_at_call 73; refine (HC2.out _).mono ?_; rintro e W2 ⟨rfl, rfl⟩)
                        go_ret2
                        exact ⟨rfl, HB2.out⟩
                    · rw [if_neg hv] at hn
                      obtain ⟨hde, h48, h57, h16⟩ := hd2 hv
                      obtain ⟨k, hk⟩ : ∃ k : Nat, escVal c.toNat = k := ⟨(escVal c.toNat).toNat, by omega⟩
                      rw [hk] at hn hde h16
                      subst hde
                      rw [Int.toNat_natCast] at hn
                      have hpw : 16 ^ pos ≤ 16 ^ 5 := Nat.pow_le_pow_right (by omega) (by omega)
                      have hnn := HP.out.2
                      have hk2 : k < 16 := by omega
                      have hb : (decide (57 < (c.toNat : Int)) = false) ∨ (decide (57 < (c.toNat : Int)) = true ∧ decide ((c.toNat : Int) < 65) = false) := by
                        simp only [decide_eq_true_eq, decide_eq_false_iff_not]
                        omega
                      have b5 : decide ((k : Int) < 0) = false := decide_eq_false (by omega)
                      have b6 : decide ((c.toNat : Int) < 48) = false := decide_eq_false (by omega)
                      have hn5 : n < 1048576 := Nat.lt_of_lt_of_le hnn hpw
                      have HN2 := Aside0.mk hn
                      have HP2 : Aside0 (pos + 1 ≤ T.size ∧ 16 * n + k < 16 ^ (pos + 1)) := ⟨by omega, by rw [Nat.pow_succ]; omega⟩
                      have HC3 : Aside0 (∀ W, Calls Tryd.prog 73 #[.string (⟨#[48, 49, 50, 51, 52, 53, 54, 55, 56, 57, 97, 98, 99, 100, 101, 102]⟩ : ByteArray), .int .i32 (o : Int)] W fun e w' => e = .returned (.int .i64 k) ∧ w' = W) := HC2
                      clear hn hk hd1 hd2 hd3 hv h48 h57 h16 hpw hnn HN HC2 HP
                      rcases hb with b7 | ⟨b7, b8⟩
                      all_goals
                        go_wp2_with (go_at_call 73; refine (HC3.out _).mono ?_; rintro e W2 ⟨rfl, hW⟩; replace hW := hW.symm; subst hW)
                        go_roundw
                        case rel => exact ⟨pos + 1, 16 * n + k, by go_num, HT2, HB2, HN2, HP2⟩
                        case measure =>
                          simp only [World.iterPos, HT2.out, HIT.out]
                          omega
                  · have hr := decode_high T pos hp (by rw [hc]; omega)
                    have hdv := decode_valid T pos
                    rw [escNum_high c _ _ (by omega)] at hn
                    subst hn
                    obtain ⟨r, hr2⟩ : ∃ r, (Utf8.decode T pos).1 = r := ⟨_, rfl⟩
                    rw [hr2] at hr hdv
                    obtain ⟨ho1, ho2, ho3⟩ := or_valid r hdv hr.1
                    have hor := or_i32 r ho3
                    obtain ⟨o, ho⟩ : ∃ o, r ||| 32 = o := ⟨_, rfl⟩
                    rw [ho] at ho1 ho2 hor
                    have HO1 := Aside0.mk ho1
                    have HO2 := Aside0.mk ho2
                    have HB2 := Aside0.mk (Lib.below_iterAt HB.out (k := w.heap.size) (Nat.le_refl _) T (pos + (Utf8.decode T pos).2))
                    clear ho1 ho2 ho ho3 hr hdv hit hdr
                    go_wp2_with (go_at_call 73; refine (idx_hi o HO1.out HO2.out _).mono ?_; rintro e W2 ⟨rfl, hb⟩; have HB3 := Aside0.mk (below_step HB2.out hb); clear hb)
                    go_ret2
                    exact ⟨rfl, HB3.out⟩
                · have hnx : ∀ ty, (Instr.next (.pointer (some ⟨w.heap.size, 0, none⟩)) true ty).run Tryd.prog wr = _ := fun ty => Lib.run_next_end_at wr w.heap.size T pos ty hit hp
                  have hn := HN.out
                  rw [List.drop_eq_nil_of_le (by rw [← Lib.size_eq]; omega), escNum] at hn
                  subst hn
                  have hw2 : wrap64 ((m : Int) + 1) = (m : Int) + 1 := by unfold wrap64; omega
                  clear hit
                  by_cases hv : Lib.validRune (n : Int) = true
                  · go_wp2_with (go_at_call 74; refine (Tryd.utf8_ValidRune (n : Int) _).mono ?_; rw [hv]; rintro e W2 ⟨rfl, rfl⟩)
                    go_ret2
                    refine ⟨?_, HB.out⟩
                    simp only [hv, if_true]
                    rfl
                  · have hv2 : Lib.validRune (n : Int) = false := by simpa using hv
                    go_wp2_with (go_at_call 74; refine (Tryd.utf8_ValidRune (n : Int) _).mono ?_; rw [hv2]; rintro e W2 ⟨rfl, rfl⟩)
                    go_ret2
                    refine ⟨?_, HB.out⟩
                    simp only [hv2, Bool.false_eq_true, if_false]
                    rfl
          · rw [hO, if_neg c4]
            have e6 : (bt a0 0 == 117) = false := beq_eq_false_iff_ne.2 c4
            clear c1 c2 c3 c4 hO
            go_enter Tryd.func54, Tryd.ntmps54
            go_wp2
            go_ret2
            exact ⟨rfl, Below.refl _ _⟩
end Go.Proofs.YtbnpgobjbokboaaDoor.PLex
