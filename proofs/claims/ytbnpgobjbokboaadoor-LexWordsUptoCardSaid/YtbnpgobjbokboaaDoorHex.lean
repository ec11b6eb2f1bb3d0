/- strconv.FormatInt at base 16, below 256. -/
import Derived.Test.YtbnpgobjbokboaaDoorPLexx0
namespace Go.Proofs.YtbnpgobjbokboaaDoor.PLex
open Go.RowKit Go.Proofs.YtbnpgobjbokboaaDoorW.PrintWords Go.Proofs.YtbnpgobjbokboaaDoorW.PrintLast Go.Proofs.YtbnpgobjbokboaaDoorW.PrintMore
set_option linter.unusedVariables false
set_option linter.unusedSimpArgs false
def hexD (d : Nat) : UInt8 := if d < 10 then UInt8.ofNat (48 + d) else UInt8.ofNat (87 + d)
def hexU (u : Nat) : List UInt8 := if u < 16 then [hexD u] else [hexD (u / 16), hexD (u % 16)]
def digs : ByteArray := ⟨#[48, 49, 50, 51, 52, 53, 54, 55, 56, 57, 97, 98, 99, 100, 101, 102, 103, 104, 105, 106, 107, 108, 109, 110, 111, 112, 113, 114, 115, 116, 117, 118, 119, 120, 121, 122]⟩
set_option maxHeartbeats 8000000 in
set_option maxRecDepth 100000 in
theorem isPowerOfTwo16 (w : World) : Calls Tryd.prog 101 #[.int .i64 16] w fun e w' => e = .returned (.bool true) ∧ w' = w := by
  go_enter Tryd.func101, Tryd.ntmps101
  go_wp2
  go_ret
  exact ⟨rfl, rfl⟩
set_option maxHeartbeats 8000000 in
set_option maxRecDepth 100000 in
theorem trailing64 (w : World) (hd : w.cell? ⟨7, 15, none⟩ = some (.int .u8 4)) : Calls Tryd.prog 104 #[.int .u64 16] w fun e w' => e = .returned (.int .i64 4) ∧ w' = w := by
  have hv : IntKind.u64.wrap (bits BinOp.and IntKind.u64 16 (IntKind.u64.wrap (-16)) * 285870213051353865) / 288230376151711744 = 15 := by kernel_rfl
  go_enter Tryd.func104, Tryd.ntmps104
  go_wp2
  go_ret
  exact ⟨rfl, rfl⟩
set_option maxHeartbeats 8000000 in
set_option maxRecDepth 100000 in
theorem trailing (w : World) (hd : w.cell? ⟨7, 15, none⟩ = some (.int .u8 4)) : Calls Tryd.prog 102 #[.int .u64 16] w fun e w' => e = .returned (.int .i64 4) ∧ w' = w := by
  go_enter Tryd.func102, Tryd.ntmps102
  go_wp2_with (go_at_call 104; refine (trailing64 _ hd).mono ?_)
  rintro e w1 ⟨rfl, rfl⟩
  go_wp2
  go_ret
  exact ⟨rfl, rfl⟩
theorem and15 (u : Nat) (h : u < 256) : bits BinOp.and IntKind.u64 (u : Int) 15 = ((u % 16 : Nat) : Int) := by
  have : ∀ u : Fin 256, bits BinOp.and IntKind.u64 ((u.val : Nat) : Int) 15 = ((u.val % 16 : Nat) : Int) := by decide +kernel
  exact this ⟨u, h⟩
theorem zc124 : Tryd.zeroCells124.size = 65 := by kernel_rfl
theorem dig_is (d : Nat) (h : d < 16) (h2 : d < (⟨#[48, 49, 50, 51, 52, 53, 54, 55, 56, 57, 97, 98, 99, 100, 101, 102, 103, 104, 105, 106, 107, 108, 109, 110, 111, 112, 113, 114, 115, 116, 117, 118, 119, 120, 121, 122]⟩ : ByteArray).size) : (⟨#[48, 49, 50, 51, 52, 53, 54, 55, 56, 57, 97, 98, 99, 100, 101, 102, 103, 104, 105, 106, 107, 108, 109, 110, 111, 112, 113, 114, 115, 116, 117, 118, 119, 120, 121, 122]⟩ : ByteArray)[d]'h2 = hexD d := by
  have : ∀ x : Fin 16, ((⟨#[48, 49, 50, 51, 52, 53, 54, 55, 56, 57, 97, 98, 99, 100, 101, 102, 103, 104, 105, 106, 107, 108, 109, 110, 111, 112, 113, 114, 115, 116, 117, 118, 119, 120, 121, 122]⟩ : ByteArray).data.toList.getD x.val 0) = hexD x.val := by decide +kernel
  rw [← this ⟨d, h⟩]
  rw [List.getD_eq_getElem?_getD]
  show _ = ((⟨#[48, 49, 50, 51, 52, 53, 54, 55, 56, 57, 97, 98, 99, 100, 101, 102, 103, 104, 105, 106, 107, 108, 109, 110, 111, 112, 113, 114, 115, 116, 117, 118, 119, 120, 121, 122]⟩ : ByteArray).data.toList[d]?).getD 0
  rw [List.getElem?_eq_getElem (show d < (⟨#[48, 49, 50, 51, 52, 53, 54, 55, 56, 57, 97, 98, 99, 100, 101, 102, 103, 104, 105, 106, 107, 108, 109, 110, 111, 112, 113, 114, 115, 116, 117, 118, 119, 120, 121, 122]⟩ : ByteArray).data.toList.length from h2)]
  rfl
theorem conv1 (w : World) (b : UInt8) : (convert 51 9 (.slice (some ⟨w.heap.size, 64, none⟩) 1 1)).run Tryd.prog (w.alloc (.cells (Tryd.zeroCells124.setIfInBounds 64 (.int .u8 (b.toNat : Int))) 124)) = .ok (.string ⟨[b].toArray⟩) (w.alloc (.cells (Tryd.zeroCells124.setIfInBounds 64 (.int .u8 (b.toNat : Int))) 124)) := by
  refine run_convert_bytes_back _ 51 9 5 ⟨w.heap.size, 64, none⟩ 1 [b] Tryd.underlying51 Tryd.underlying5 Tryd.underlying9 (fun j hj => ?_)
  obtain rfl : j = 0 := by simpa using hj
  rw [Lib.add_plain, World.cell?_alloc_new]
  simp [zc124]
theorem conv2 (w : World) (a b : UInt8) : (convert 51 9 (.slice (some ⟨w.heap.size, 63, none⟩) 2 2)).run Tryd.prog (w.alloc (.cells ((Tryd.zeroCells124.setIfInBounds 64 (.int .u8 (b.toNat : Int))).setIfInBounds 63 (.int .u8 (a.toNat : Int))) 124)) = .ok (.string ⟨[a, b].toArray⟩) (w.alloc (.cells ((Tryd.zeroCells124.setIfInBounds 64 (.int .u8 (b.toNat : Int))).setIfInBounds 63 (.int .u8 (a.toNat : Int))) 124)) := by
  refine run_convert_bytes_back _ 51 9 5 ⟨w.heap.size, 63, none⟩ 2 [a, b] Tryd.underlying51 Tryd.underlying5 Tryd.underlying9 (fun j hj => ?_)
  rw [Lib.add_plain, World.cell?_alloc_new]
  have : j = 0 ∨ j = 1 := by simp at hj; omega
  rcases this with rfl | rfl
  · simp [zc124]
  · simp [zc124, Array.getElem?_setIfInBounds]
set_option maxHeartbeats 8000000 in
set_option maxRecDepth 100000 in
theorem formatBits16 (u : Nat) (hu : u < 256) (w : World) (hd : w.cell? ⟨7, 15, none⟩ = some (.int .u8 4)) : Calls Tryd.prog 92 #[.slice none 0 0, .int .u64 u, .int .i64 16, .bool false, .bool false] w fun e w' => e = .returned (.tuple #[.slice none 0 0, .string ⟨(hexU u).toArray⟩]) ∧ Below w.heap.size w w' := by
  have hand := and15 u hu
  have HU := Aside0.mk hu
  go_enter Tryd.func92, Tryd.ntmps92
  have hcd : (w.alloc (.cells Tryd.zeroCells124 124)).cell? ⟨7, 15, none⟩ = some (.int .u8 4) := pw_cell_below ((Below.refl _ _).alloc (Nat.le_refl _) _) hd
  go_wp2_with (first | (go_at_call 101; refine (isPowerOfTwo16 _).mono ?_; rintro e w1 ⟨rfl, rfl⟩) | (go_at_call 102; refine (trailing _ hcd).mono ?_; rintro e w1 ⟨rfl, rfl⟩))
  have hcv1 := conv1 w
  have hcv2 := conv2 w
  go_loopg [1, 13] 1 (fun kq v1 v13 w' => Aside0 (kq = 1 ∧ v1 = .int .u64 u ∧ v13 = .int .i64 65 ∧ w' = w.alloc (.cells Tryd.zeroCells124 124) ∨ kq = 0 ∧ 16 ≤ u ∧ v1 = .int .u64 (u / 16 : Nat) ∧ v13 = .int .i64 64 ∧ w' = w.alloc (.cells (Tryd.zeroCells124.setIfInBounds 64 (.int .u8 (hexD (u % 16)).toNat)) 124)))
  case atStart => exact ⟨.inl ⟨rfl, rfl, rfl, rfl⟩⟩
  case round =>
    rcases hrel.out with ⟨rfl, rfl, rfl, rfl⟩ | ⟨rfl, h16, rfl, rfl, rfl⟩
    · clear hrel
      rcases Nat.lt_or_ge u 16 with h16 | h16
      · have c1 : decide ((16 : Int) ≤ (u : Int)) = false := decide_eq_false (by omega)
        go_wp2
        go_ret2
        refine ⟨?_, (Below.refl _ _).alloc (Nat.le_refl _) _⟩
        rw [dig_is _ h16]
        unfold hexU
        rw [if_pos h16]
        rfl
      · have c1 : decide ((16 : Int) ≤ (u : Int)) = true := decide_eq_true (by omega)
        go_wp2
        go_roundg 0
        case measure => omega
        case rel =>
          refine ⟨.inr ⟨rfl, h16, rfl, rfl, ?_⟩⟩
          rw [dig_is _ (by omega)]
    · clear hrel
      have hlt : u / 16 < 16 := by omega
      generalize hq : u / 16 = q at hlt
      have c1 : decide ((16 : Int) ≤ (q : Int)) = false := decide_eq_false (by omega)
      go_wp2
      go_ret2
      refine ⟨?_, (Below.refl _ _).alloc (Nat.le_refl _) _⟩
      rw [dig_is _ hlt]
      unfold hexU
      rw [if_neg (by omega), hq]
      rfl
theorem formatInt_in (u : Nat) (hu : u < 256) (w : World) (hd : w.cell? ⟨7, 15, none⟩ = some (.int .u8 4)) : Calls Tryd.prog 77 #[.int .i64 u, .int .i64 16] w fun e w' => e = .returned (.string ⟨(hexU u).toArray⟩) ∧ Below w.heap.size w w' := by
  have c1 : decide ((u : Int) < 0) = false := decide_eq_false (by omega)
  have HU := Aside0.mk hu
  go_enter Tryd.func77, Tryd.ntmps77
  go_wp2_with (go_at_call 92; refine (formatBits16 u HU.out _ hd).mono ?_)
  rintro e w1 ⟨rfl, hb⟩
  go_wp2
  go_ret
  exact ⟨rfl, hb⟩
theorem FormatInt16 (u : Nat) (hu : u < 256) (w : World) [h : GW w] : Calls Tryd.prog 60 #[.int .i64 u, .int .i64 16] w fun e w' => e = .returned (.string ⟨(hexU u).toArray⟩) ∧ Below w.heap.size w w' := by
  have hd := h.db
  have HU := Aside0.mk hu
  go_enter Tryd.func60, Tryd.ntmps60
  go_wp2_with (go_at_call 77; refine (formatInt_in u HU.out _ hd).mono ?_)
  rintro e w1 ⟨rfl, hb⟩
  go_wp2
  go_ret
  exact ⟨rfl, hb⟩
end Go.Proofs.YtbnpgobjbokboaaDoor.PLex
