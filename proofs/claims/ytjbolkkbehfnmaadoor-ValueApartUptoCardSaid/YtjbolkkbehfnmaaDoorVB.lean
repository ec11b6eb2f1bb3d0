/- Contracts of the heap's own look-ups. -/
import Derived.Test.YtjbolkkbehfnmaaDoorVM
import Derived.Deep.QuietTactic
import Derived.BigQuiet
namespace Go.Proofs.YtjbolkkbehfnmaaDoor.Val
open Go.RowKit Go.Proofs.YtjbolkkbehfnmaaDoor.PVal Go.Proofs.YtjbolkkbehfnmaaDoorW.PrintWords Go.Proofs.YtjbolkkbehfnmaaDoorW.PrintLast Go.Proofs.YtjbolkkbehfnmaaDoorW.PrintMore
set_option linter.unusedVariables false
set_option linter.unusedSimpArgs false

def atV (xs : List (Bool × Nat)) (x : S32) (kind : Int) : Value := if x.f0 = kind ∧ 0 ≤ x.f1 ∧ x.f1 < (xs.length : Int) then thEnc (xs.getD x.f1.toNat (false, 0)) else .nilIface

theorem cell_alloc {w : World} {a : Addr} {v : Value} (h : w.cell? a = some v) (o : Obj) : (w.alloc o).cell? a = some v := (Chg.alloc No w o).cell h (fun h => h)
theorem at_th {w : World} {A : Option Addr} {n : Nat} {xs : List (Bool × Nat)} (h : kTh.C w A n xs) (i : Int) (h0 : 0 ≤ i) (h1 : i < n) : ∃ ad, A = some ad ∧ w.cell? (ad.add i.toNat) = some (thEnc (xs.getD i.toNat (false, 0))) := by
  obtain ⟨ad, c, e, _, hK, hc0⟩ := Kd.C_get h (false, 0) i h0 h1
  have hc : ∀ j u, c[j]? = some u → w.cell? (ad.add (i.toNat * 1 + j)) = some u := hc0
  have hK' : c = [thEnc (xs.getD i.toNat (false, 0))] := hK
  subst hK'
  have hq := hc 0 _ rfl
  rw [Nat.mul_one, Nat.add_zero] at hq
  exact ⟨ad, e, hq⟩
set_option maxHeartbeats 2000000 in
set_option maxRecDepth 100000 in
theorem at_yes (w : World) (p : Nat) (A : Option Addr) (n c : Nat) (xs : List (Bool × Nat)) (x : S32) (kind : Int) (hc : w.cell? ⟨p, 0, none⟩ = some (.slice A n c)) (hC : kTh.C w A n xs) (h1 : x.f0 = kind) (h2 : 0 ≤ x.f1) (h3 : x.f1 < (n : Int)) :
    Calls Tryd.prog 41 #[.pointer (some ⟨p, 0, none⟩), .agg #[.int .i64 x.f0, .int .i64 x.f1, .string x.f2], .int .i64 kind] w fun e w' => e = .returned (thEnc (xs.getD x.f1.toNat (false, 0))) ∧ Below w.heap.size w w' := by
  obtain ⟨ad, rfl, ha⟩ := at_th hC x.f1 h2 h3
  have hc1 := cell_alloc hc (.cells #[.int .i64 x.f0, .int .i64 x.f1, .string x.f2] 32)
  have ha1 := cell_alloc ha (.cells #[.int .i64 x.f0, .int .i64 x.f1, .string x.f2] 32)
  have e1 : (x.f0 != kind) = false := by simp [h1]
  have e2 : decide (x.f1 < 0) = false := by simp; omega
  have e3 : decide ((n : Int) ≤ x.f1) = false := by simp; omega
  generalize xs.getD x.f1.toNat (false, 0) = r at ha ha1 ⊢
  clear hC ha hc h1
  go_enter Tryd.func41, Tryd.ntmps41
  go_wp2
  go_quiet (fail)
  go_wp2
  go_quiet (fail)
  go_wp2
  go_ret
  exact ⟨rfl, pw_below_drewN (pw_below_drewN (below_alloc (Below.refl _ _) _) _) _⟩
set_option maxHeartbeats 2000000 in
set_option maxRecDepth 100000 in
theorem at_kind (w : World) (p : Nat) (x : S32) (kind : Int) (h1 : x.f0 ≠ kind) :
    Calls Tryd.prog 41 #[.pointer (some ⟨p, 0, none⟩), .agg #[.int .i64 x.f0, .int .i64 x.f1, .string x.f2], .int .i64 kind] w fun e w' => e = .returned .nilIface ∧ Below w.heap.size w w' := by
  have e1 : (x.f0 != kind) = true := by simp [h1]
  clear h1
  go_enter Tryd.func41, Tryd.ntmps41
  go_wp2
  go_quiet (fail)
  go_wp2
  go_ret
  exact ⟨rfl, pw_below_drewN (below_alloc (Below.refl _ _) _) _⟩
set_option maxHeartbeats 2000000 in
set_option maxRecDepth 100000 in
theorem at_low (w : World) (p : Nat) (x : S32) (kind : Int) (h1 : x.f0 = kind) (h2 : x.f1 < 0) :
    Calls Tryd.prog 41 #[.pointer (some ⟨p, 0, none⟩), .agg #[.int .i64 x.f0, .int .i64 x.f1, .string x.f2], .int .i64 kind] w fun e w' => e = .returned .nilIface ∧ Below w.heap.size w w' := by
  have e1 : (x.f0 != kind) = false := by simp [h1]
  have e2 : decide (x.f1 < 0) = true := by simpa using h2
  clear h1
  go_enter Tryd.func41, Tryd.ntmps41
  go_wp2
  go_quiet (fail)
  go_wp2
  go_ret
  exact ⟨rfl, pw_below_drewN (below_alloc (Below.refl _ _) _) _⟩
set_option maxHeartbeats 2000000 in
set_option maxRecDepth 100000 in
theorem at_high (w : World) (p : Nat) (A : Option Addr) (n c : Nat) (x : S32) (kind : Int) (hc : w.cell? ⟨p, 0, none⟩ = some (.slice A n c)) (h1 : x.f0 = kind) (h2 : 0 ≤ x.f1) (h3 : (n : Int) ≤ x.f1) :
    Calls Tryd.prog 41 #[.pointer (some ⟨p, 0, none⟩), .agg #[.int .i64 x.f0, .int .i64 x.f1, .string x.f2], .int .i64 kind] w fun e w' => e = .returned .nilIface ∧ Below w.heap.size w w' := by
  have hc1 := cell_alloc hc (.cells #[.int .i64 x.f0, .int .i64 x.f1, .string x.f2] 32)
  have e1 : (x.f0 != kind) = false := by simp [h1]
  have e2 : decide (x.f1 < 0) = false := by simp; omega
  have e3 : decide ((n : Int) ≤ x.f1) = true := by simpa using h3
  clear h1 hc
  go_enter Tryd.func41, Tryd.ntmps41
  go_wp2
  go_quiet (fail)
  go_wp2
  go_ret
  exact ⟨rfl, pw_below_drewN (below_alloc (Below.refl _ _) _) _⟩
set_option maxHeartbeats 2000000 in
set_option maxRecDepth 100000 in
/-- .. of no heap. -/
theorem at_nil (w : World) (x : S32) (kind : Int) :
    Calls Tryd.prog 41 #[.pointer none, .agg #[.int .i64 x.f0, .int .i64 x.f1, .string x.f2], .int .i64 kind] w fun e w' => e = .returned .nilIface ∧ Below w.heap.size w w' := by
  go_enter Tryd.func41, Tryd.ntmps41
  go_wp2
  go_quiet (fail)
  go_wp2
  go_ret
  exact ⟨rfl, pw_below_drewN (below_alloc (Below.refl _ _) _) _⟩

section
variable {w : World} {O : Nat → Prop} {p : Nat} {v : Value} {xs : List (Bool × Nat)} {Os : Nat → Nat → Prop} {D : List Th}
theorem HPw.head (h : HPw w O p v xs Os D) : ∃ A c, v = .slice A xs.length c ∧ kTh.C w A xs.length xs ∧ w.cell? ⟨p, 0, none⟩ = some (.slice A xs.length c) := by
  obtain ⟨A, c, rfl, _, hC⟩ := Kd.R_reads h.row
  exact ⟨A, c, rfl, hC, (blk_cell h.hdr 0).trans rfl⟩
theorem at_calls (h : HPw w O p v xs Os D) (x : S32) (kind : Int) :
    Calls Tryd.prog 41 #[.pointer (some ⟨p, 0, none⟩), .agg #[.int .i64 x.f0, .int .i64 x.f1, .string x.f2], .int .i64 kind] w fun e w' => e = .returned (atV xs x kind) ∧ Below w.heap.size w w' := by
  obtain ⟨A, c, rfl, hC, hc⟩ := h.head
  unfold atV
  by_cases h1 : x.f0 = kind
  · by_cases h2 : 0 ≤ x.f1
    · by_cases h3 : x.f1 < (xs.length : Int)
      · rw [if_pos ⟨h1, h2, h3⟩]; exact at_yes w p A xs.length c xs x kind hc hC h1 h2 h3
      · rw [if_neg (fun hh => h3 hh.2.2)]; exact at_high w p A xs.length c x kind hc h1 h2 (by omega)
    · rw [if_neg (fun hh => h2 hh.2.1)]; exact at_low w p x kind h1 (by omega)
  · rw [if_neg (fun hh => h1 hh.1)]; exact at_kind w p x kind h1
end
end Go.Proofs.YtjbolkkbehfnmaaDoor.Val
