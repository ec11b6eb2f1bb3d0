/- strings.IndexRune in the sixteen hexadecimal digits, at every rune. -/
import Derived.Test.YtbnpgobjbokboaaDoorPLexx0
import Derived.WalkKit
import Derived.BigCall
import Derived.ScopeJumps
namespace Go.Proofs.YtbnpgobjbokboaaDoor.PLex
open Go.RowKit Go.Proofs.YtbnpgobjbokboaaDoorW.PrintWords Go.Proofs.YtbnpgobjbokboaaDoorW.PrintLast Go.Proofs.YtbnpgobjbokboaaDoorW.PrintMore
set_option linter.unusedVariables false
set_option linter.unusedSimpArgs false
def hexs : ByteArray := ⟨#[48, 49, 50, 51, 52, 53, 54, 55, 56, 57, 97, 98, 99, 100, 101, 102]⟩
theorem hexs_dec (pos : Nat) (h : pos < 16) : (Utf8.decode hexs pos).2 = 1 ∧ (Utf8.decode hexs pos).1 < 128 := by
  have : ∀ p : Fin 16, (Utf8.decode hexs p.val).2 = 1 ∧ (Utf8.decode hexs p.val).1 < 128 := by decide +kernel
  exact this ⟨pos, h⟩
theorem none_high (c : UInt8) (h : 128 ≤ c.toNat) (k : Nat) : Lib.indexByte ((hexs.extract k 16).data.toList) c = -1 := by
  have key : ∀ l : List UInt8, (∀ x ∈ l, x.toNat < 128) → Lib.indexByte l c = -1 := by
    intro l
    induction l with
    | nil => intro _; rfl
    | cons x r ih =>
      intro hx
      rw [Lib.indexByte, if_neg, if_pos]
      · rw [ih (fun y hy => hx y (List.mem_cons_of_mem _ hy))]; rfl
      · intro e
        have := hx x List.mem_cons_self
        rw [eq_of_beq e] at this
        omega
  refine key _ (fun x hx => ?_)
  rw [Lib.extract_data] at hx
  have hm := List.mem_of_mem_drop (List.mem_of_mem_take hx)
  have : ∀ x ∈ hexs.data.toList, x.toNat < 128 := by decide
  exact this x hm
set_option maxHeartbeats 8000000 in
set_option maxRecDepth 100000 in
theorem idx_err (w : World) : Calls Tryd.prog 73 #[.string hexs, .int .i32 65533] w fun e w' => e = .returned (.int .i64 (-1)) ∧ Below w.heap.size w w' := by
  go_enter Tryd.func73, Tryd.ntmps73
  go_wp2
  go_loopw [] (fun wr => ∃ pos : Nat, Aside0 (wr.heap[w.heap.size]? = some (.stringIter hexs pos)) ∧ Aside0 (Below w.heap.size w wr) ∧ Aside0 (pos ≤ 16)) (fun wr => 16 - wr.iterPos w.heap.size)
  case atStart => exact ⟨0, ⟨World.iter_heap w hexs 0⟩, ⟨(Below.refl _ _).alloc (Nat.le_refl _) _⟩, ⟨by omega⟩⟩
  case round =>
    obtain ⟨pos, HIT, HB, HP⟩ := hrel
    have hit := HIT.out
    by_cases hp : pos < hexs.size
    · have hnx : ∀ ty, (Instr.next (.pointer (some ⟨w.heap.size, 0, none⟩)) true ty).run Tryd.prog wr = _ := fun ty => Lib.run_next_any_at wr w.heap.size hexs pos ty hit hp
      obtain ⟨hd1, hd2⟩ := hexs_dec pos hp
      have HT2 := Aside0.mk (Lib.iterAt_heap wr w.heap.size hexs pos (pos + 1) hit)
      have HB2 := Aside0.mk (Lib.below_iterAt HB.out (k := w.heap.size) (Nat.le_refl _) hexs (pos + 1))
      have e1 : (((Utf8.decode hexs pos).1 : Int) == 65533) = false := beq_eq_false_iff_ne.2 (by omega)
      clear hit
      go_wp2
      go_roundw
      case rel => exact ⟨pos + 1, HT2, HB2, ⟨by have : pos < 16 := hp; omega⟩⟩
      case measure =>
        simp only [World.iterPos, HT2.out, HIT.out]
        have : pos < 16 := hp
        omega
    · have hnx : ∀ ty, (Instr.next (.pointer (some ⟨w.heap.size, 0, none⟩)) true ty).run Tryd.prog wr = _ := fun ty => Lib.run_next_end_at wr w.heap.size hexs pos ty hit hp
      go_wp2
      go_ret
      exact ⟨rfl, HB.out⟩
theorem cont_ge (x : Nat) : 128 ≤ (UInt8.ofNat (0x80 + x % 64)).toNat := by
  rw [UInt8.toNat_ofNat_of_lt' (by unfold UInt8.size; omega)]
  omega
theorem enc_form (r : Nat) (h : 128 ≤ r) (hv : Utf8.valid (r : Int) = true) : (∃ a, Utf8.encode (r : Int) = ⟨#[a, UInt8.ofNat (0x80 + r % 64)]⟩) ∨ (∃ a b, Utf8.encode (r : Int) = ⟨#[a, b, UInt8.ofNat (0x80 + r % 64)]⟩) ∨ (∃ a b c, Utf8.encode (r : Int) = ⟨#[a, b, c, UInt8.ofNat (0x80 + r % 64)]⟩) := by
  unfold Utf8.encode
  rw [if_pos hv, Int.toNat_natCast, if_neg (by omega)]
  by_cases h2 : r < 0x800
  · rw [if_pos h2]; exact .inl ⟨_, rfl⟩
  · rw [if_neg h2]
    by_cases h3 : r < 0x10000
    · rw [if_pos h3]; exact .inr (.inl ⟨_, _, rfl⟩)
    · rw [if_neg h3]; exact .inr (.inr ⟨_, _, _, rfl⟩)
set_option maxHeartbeats 8000000 in
set_option maxRecDepth 100000 in
theorem idx_high (r : Nat) (h : 128 ≤ r) (hv : Utf8.valid (r : Int) = true) (hne : r ≠ 65533) (w : World) : Calls Tryd.prog 73 #[.string (⟨#[48, 49, 50, 51, 52, 53, 54, 55, 56, 57, 97, 98, 99, 100, 101, 102]⟩ : ByteArray), .int .i32 r] w fun e w' => e = .returned (.int .i64 (-1)) ∧ Below w.heap.size w w' := by
  have e1 : decide ((r : Int) < 128) = false := decide_eq_false (by omega)
  have e2 : ((r : Int) == 65533) = false := beq_eq_false_iff_ne.2 (by omega)
  have hvr : Lib.validRune (r : Int) = true := by
    unfold Utf8.valid at hv
    unfold Lib.validRune
    simp only [Bool.or_eq_true, Bool.and_eq_true, decide_eq_true_eq] at hv ⊢
    omega
  have HE := Aside0.mk (enc_form r h hv)
  have HL := cont_ge r
  obtain ⟨z, hz⟩ : ∃ z, UInt8.ofNat (0x80 + r % 64) = z := ⟨_, rfl⟩
  rw [hz] at HL HE
  have HN := Aside0.mk (none_high z HL)
  have HL2 := Aside0.mk HL
  clear hv h HL hz
  go_enter Tryd.func73, Tryd.ntmps73
  go_wp2_with (go_at_call 74; refine (Tryd.utf8_ValidRune (r : Int) _).mono ?_; rw [hvr]; rintro e W0 ⟨rfl, rfl⟩)
  have hzz : ((z.toNat : Int)).toNat.toUInt8 = z := by
    rw [Int.toNat_natCast]
    exact UInt8.ofNat_toNat
  have hge := HL2.out
  have hc1 : ((49 : Int) == (z.toNat : Int)) = false := beq_eq_false_iff_ne.2 (by omega)
  have hd1 : ((49 : Int) != (z.toNat : Int)) = true := bne_iff_ne.2 (by omega)
  have hd2 : ((50 : Int) != (z.toNat : Int)) = true := bne_iff_ne.2 (by omega)
  have hd3 : ((51 : Int) != (z.toNat : Int)) = true := bne_iff_ne.2 (by omega)
  have hc2 : ((50 : Int) == (z.toNat : Int)) = false := beq_eq_false_iff_ne.2 (by omega)
  have hc3 : ((51 : Int) == (z.toNat : Int)) = false := beq_eq_false_iff_ne.2 (by omega)
  rcases HE.out with ⟨a, hE⟩ | ⟨a, b, hE⟩ | ⟨a, b, c, hE⟩
  · go_step3
    go_wp2
    go_loopg [9] 0 (fun kq v9 w' => Aside0 (v9 = .int .i64 1 ∧ w' = W0))
    case atStart => exact ⟨rfl, rfl⟩
    case round =>
      obtain ⟨rfl, hw⟩ := hrel.out
      subst hw
      have hC : ∀ W, Calls Tryd.prog 27 #[.string ((⟨#[48, 49, 50, 51, 52, 53, 54, 55, 56, 57, 97, 98, 99, 100, 101, 102]⟩ : ByteArray).extract 2 16), .int .u8 (z.toNat : Int)] W fun e w' => e = .returned (.int .i64 (-1)) ∧ w' = W := fun W => by
        have hC := Tryd.strings_IndexByte ((⟨#[48, 49, 50, 51, 52, 53, 54, 55, 56, 57, 97, 98, 99, 100, 101, 102]⟩ : ByteArray).extract 2 16) (z.toNat : Int) W
        have hN := HN.out 2
        unfold hexs at hN
        rw [hzz, hN] at hC
        exact hC
      have HC := Aside0.mk hC
      clear hC hzz hge
      go_wp2
      go_step3
      go_wp2
      go_quiet (fail)
      have hv1 : ∀ h, (((⟨#[48, 49, 50, 51, 52, 53, 54, 55, 56, 57, 97, 98, 99, 100, 101, 102]⟩ : ByteArray)[1]'h).toNat : Int) = 49 := fun _ => rfl
      have hv2 : ∀ h, (((⟨#[a, z]⟩ : ByteArray)[1]'h).toNat : Int) = (z.toNat : Int) := fun _ => rfl
      simp only [hv1, hv2, hd1]
      go_wp2
      have hw : IntKind.i64.wrap 2 = 2 := by decide
      clear hv1
      go_quiet (exact (HC.out _).mono fun e w' h => ⟨h.1, _, h.2⟩)
      go_wp2
      simp only [Exit.noGoto, Exit.inBlock, Exit.then]
      go_ret
      exact ⟨rfl, by repeat (first | exact Below.refl _ _ | apply pw_below_drewN | apply below_drew1)⟩
  · go_step3
    go_wp2
    go_loopg [9] 0 (fun kq v9 w' => Aside0 (v9 = .int .i64 2 ∧ w' = W0))
    case atStart => exact ⟨rfl, rfl⟩
    case round =>
      obtain ⟨rfl, hw⟩ := hrel.out
      subst hw
      have hC : ∀ W, Calls Tryd.prog 27 #[.string ((⟨#[48, 49, 50, 51, 52, 53, 54, 55, 56, 57, 97, 98, 99, 100, 101, 102]⟩ : ByteArray).extract 3 16), .int .u8 (z.toNat : Int)] W fun e w' => e = .returned (.int .i64 (-1)) ∧ w' = W := fun W => by
        have hC := Tryd.strings_IndexByte ((⟨#[48, 49, 50, 51, 52, 53, 54, 55, 56, 57, 97, 98, 99, 100, 101, 102]⟩ : ByteArray).extract 3 16) (z.toNat : Int) W
        have hN := HN.out 3
        unfold hexs at hN
        rw [hzz, hN] at hC
        exact hC
      have HC := Aside0.mk hC
      clear hC hzz hge
      go_wp2
      go_step3
      go_wp2
      go_quiet (fail)
      have hv1 : ∀ h, (((⟨#[48, 49, 50, 51, 52, 53, 54, 55, 56, 57, 97, 98, 99, 100, 101, 102]⟩ : ByteArray)[2]'h).toNat : Int) = 50 := fun _ => rfl
      have hv2 : ∀ h, (((⟨#[a, b, z]⟩ : ByteArray)[2]'h).toNat : Int) = (z.toNat : Int) := fun _ => rfl
      simp only [hv1, hv2, hd2]
      go_wp2
      have hw : IntKind.i64.wrap 3 = 3 := by decide
      clear hv1
      go_quiet (exact (HC.out _).mono fun e w' h => ⟨h.1, _, h.2⟩)
      go_wp2
      simp only [Exit.noGoto, Exit.inBlock, Exit.then]
      go_ret
      exact ⟨rfl, by repeat (first | exact Below.refl _ _ | apply pw_below_drewN | apply below_drew1)⟩
  · go_step3
    go_wp2
    go_loopg [9] 0 (fun kq v9 w' => Aside0 (v9 = .int .i64 3 ∧ w' = W0))
    case atStart => exact ⟨rfl, rfl⟩
    case round =>
      obtain ⟨rfl, hw⟩ := hrel.out
      subst hw
      have hC : ∀ W, Calls Tryd.prog 27 #[.string ((⟨#[48, 49, 50, 51, 52, 53, 54, 55, 56, 57, 97, 98, 99, 100, 101, 102]⟩ : ByteArray).extract 4 16), .int .u8 (z.toNat : Int)] W fun e w' => e = .returned (.int .i64 (-1)) ∧ w' = W := fun W => by
        have hC := Tryd.strings_IndexByte ((⟨#[48, 49, 50, 51, 52, 53, 54, 55, 56, 57, 97, 98, 99, 100, 101, 102]⟩ : ByteArray).extract 4 16) (z.toNat : Int) W
        have hN := HN.out 4
        unfold hexs at hN
        rw [hzz, hN] at hC
        exact hC
      have HC := Aside0.mk hC
      clear hC hzz hge
      go_wp2
      go_step3
      go_wp2
      go_quiet (fail)
      have hv1 : ∀ h, (((⟨#[48, 49, 50, 51, 52, 53, 54, 55, 56, 57, 97, 98, 99, 100, 101, 102]⟩ : ByteArray)[3]'h).toNat : Int) = 51 := fun _ => rfl
      have hv2 : ∀ h, (((⟨#[a, b, c, z]⟩ : ByteArray)[3]'h).toNat : Int) = (z.toNat : Int) := fun _ => rfl
      simp only [hv1, hv2, hd3]
      go_wp2
      have hw : IntKind.i64.wrap 4 = 4 := by decide
      clear hv1
      go_quiet (exact (HC.out _).mono fun e w' h => ⟨h.1, _, h.2⟩)
      go_wp2
      simp only [Exit.noGoto, Exit.inBlock, Exit.then]
      go_ret
      exact ⟨rfl, by repeat (first | exact Below.refl _ _ | apply pw_below_drewN | apply below_drew1)⟩
end Go.Proofs.YtbnpgobjbokboaaDoor.PLex
