/- PLexx18, as this claim needs it. -/
import Derived.Test.YtbnpgobjbokboaaDoorPLexx0q
import Derived.Test.YtbnpgobjbokboaaDoorPLexx11q
import Derived.Test.YtbnpgobjbokboaaDoorPLexx17q
namespace Go.Proofs.YtbnpgobjbokboaaDoor.PLex
open Go.RowKit Go.Proofs.YtbnpgobjbokboaaDoorW.PrintWords Go.Proofs.YtbnpgobjbokboaaDoorW.PrintLast Go.Proofs.YtbnpgobjbokboaaDoorW.PrintMore
attribute [local go_sem] max2_int min2_int max_two min_two max_three min_three max_four min_four   -- for this text's walks alone
set_option linter.unusedVariables false
set_option linter.unusedSimpArgs false
mutual
def gussetref01_Quote.l0 : Nat → List ByteArray → ByteArray → Int → Option (ByteArray)
 | 0, _, _, _ => none
 | k + 1, x3, x5, x6 => if x6 < (x3.length : Int) then (if 0 ≤ x6 then ((gussetref01_Head.f k (rdOf ByteArray.empty x3 x6)).bind fun bt414 => (if (rdOf ByteArray.empty x3 x6).toList = ([34] : List UInt8) then (gussetref01_Quote.j1 k x3 x5 x6 bt414.2 true) else (gussetref01_Quote.j1 k x3 x5 x6 bt414.2 ((rdOf ByteArray.empty x3 x6).toList == ([92] : List UInt8))))) else (none)) else (if x5.size + 1 ≤ 9223372036854775807 then (some (x5 ++ (⟨#[34]⟩ : ByteArray))) else (none))
def gussetref01_Quote.j1 : Nat → List ByteArray → ByteArray → Int → Int → Bool → Option (ByteArray)
 | 0, _, _, _, _, _ => none
 | k + 1, x3, x5, x6, x8, x34 => if x34 = true then (if 0 ≤ x6 then (if x6 < (x3.length : Int) then (if 1 + (rdOf ByteArray.empty x3 x6).size ≤ 9223372036854775807 then (if x5.size + ((⟨#[92]⟩ : ByteArray) ++ (rdOf ByteArray.empty x3 x6)).size ≤ 9223372036854775807 then (gussetref01_Quote.l0 k x3 (x5 ++ ((⟨#[92]⟩ : ByteArray) ++ (rdOf ByteArray.empty x3 x6))) (wrap64 (x6 + 1))) else (none)) else (none)) else (none)) else (none)) else (if x8 = 10 then (if x5.size + 2 ≤ 9223372036854775807 then (gussetref01_Quote.l0 k x3 (x5 ++ (⟨#[92, 110]⟩ : ByteArray)) (wrap64 (x6 + 1))) else (none)) else (if x8 = 9 then (if x5.size + 2 ≤ 9223372036854775807 then (gussetref01_Quote.l0 k x3 (x5 ++ (⟨#[92, 116]⟩ : ByteArray)) (wrap64 (x6 + 1))) else (none)) else (if x8 < 0 then (if 0 ≤ x6 then (if x6 < (x3.length : Int) then (if 0 < ((rdOf ByteArray.empty x3 x6).size : Int) then ((gussetref01_hex.f k (wrap64 (bt (rdOf ByteArray.empty x3 x6) 0))).bind fun t420 => (if 3 + t420.size ≤ 9223372036854775807 then (if ((⟨#[92, 117, 123]⟩ : ByteArray) ++ t420).size + 1 ≤ 9223372036854775807 then (if x5.size + (((⟨#[92, 117, 123]⟩ : ByteArray) ++ t420) ++ (⟨#[125]⟩ : ByteArray)).size ≤ 9223372036854775807 then (gussetref01_Quote.l0 k x3 (x5 ++ (((⟨#[92, 117, 123]⟩ : ByteArray) ++ t420) ++ (⟨#[125]⟩ : ByteArray))) (wrap64 (x6 + 1))) else (none)) else (none)) else (none))) else (none)) else (none)) else (none)) else (if x8 < 32 then ((gussetref01_hex.f k x8).bind fun t421 => (if 3 + t421.size ≤ 9223372036854775807 then (if ((⟨#[92, 117, 123]⟩ : ByteArray) ++ t421).size + 1 ≤ 9223372036854775807 then (if x5.size + (((⟨#[92, 117, 123]⟩ : ByteArray) ++ t421) ++ (⟨#[125]⟩ : ByteArray)).size ≤ 9223372036854775807 then (gussetref01_Quote.l0 k x3 (x5 ++ (((⟨#[92, 117, 123]⟩ : ByteArray) ++ t421) ++ (⟨#[125]⟩ : ByteArray))) (wrap64 (x6 + 1))) else (none)) else (none)) else (none))) else (if x8 = 127 then ((gussetref01_hex.f k x8).bind fun t422 => (if 3 + t422.size ≤ 9223372036854775807 then (if ((⟨#[92, 117, 123]⟩ : ByteArray) ++ t422).size + 1 ≤ 9223372036854775807 then (if x5.size + (((⟨#[92, 117, 123]⟩ : ByteArray) ++ t422) ++ (⟨#[125]⟩ : ByteArray)).size ≤ 9223372036854775807 then (gussetref01_Quote.l0 k x3 (x5 ++ (((⟨#[92, 117, 123]⟩ : ByteArray) ++ t422) ++ (⟨#[125]⟩ : ByteArray))) (wrap64 (x6 + 1))) else (none)) else (none)) else (none))) else (if 0 ≤ x6 then (if x6 < (x3.length : Int) then (if x5.size + (rdOf ByteArray.empty x3 x6).size ≤ 9223372036854775807 then (gussetref01_Quote.l0 k x3 (x5 ++ (rdOf ByteArray.empty x3 x6)) (wrap64 (x6 + 1))) else (none)) else (none)) else (none)))))))
end
def gussetref01_Quote.f (k : Nat) (a0 : ByteArray) : Option (ByteArray) := (gussetref01_Runes.f k a0).bind fun bt409 => (gussetref01_Quote.l0 k bt409.1 (⟨#[34]⟩ : ByteArray) 0)
set_option maxHeartbeats 8000000 in
set_option maxRecDepth 100000 in
theorem gussetref01_Quote.calls (k : Nat) (a0 : ByteArray) (r : ByteArray) (w : World) (h : gussetref01_Quote.f k a0 = some r) :
  Calls Tryd.prog 46 #[.string a0] w fun e w' => e = .returned (.string r) ∧ Below w.heap.size w w' := by
 have HB := Aside0.mk (Below.refl w.heap.size w)
 have H : ((gussetref01_Runes.f k a0).bind fun bt409 => (gussetref01_Quote.l0 k bt409.1 (⟨#[34]⟩ : ByteArray) 0)) = some r := h
 clear h
 replace H := Option.bind_eq_some_iff.mp H
 obtain ⟨⟨t409, t410⟩, A20, H⟩ := H
 replace H : (gussetref01_Quote.l0 k t409 (⟨#[34]⟩ : ByteArray) 0) = some r := H
 have A2 := Aside0.mk A20
 clear A20
 have H' := Aside0.mk H
 clear H
 go_enter Tryd.func46, Tryd.ntmps46
 go_wp2_with (first | ((with_reducible refine gate_callee (f := 64) rfl ?_); refine goesL_ (some 11) rfl rfl Tryd.func64 (by kernel_rfl) rfl #[.string a0] rfl (by (try simp only [List.map_toArray, List.map_cons, List.map_nil]); first | done | rfl | (simp only [List.length_drop, List.length_take]; rfl)) ?_; (with_reducible refine (gussetref01_Runes.calls k a0 t409 t410 _ A2.out).mono ?_); rintro e w3 ⟨v411, rfl, ho0, hb⟩; refine ⟨_, rfl, ?_⟩; have n0_ := Aside0.mk (Kd.R_lower ho0 (below_size (by repeat (first | (with_reducible first | exact HB.out | apply below_alloc | apply pw_below_drewN | apply below_drew1) | exact HB.out)))); have n1_ := Aside0.mk (below_step (by repeat (first | (with_reducible first | exact HB.out | apply below_alloc | apply pw_below_drewN | apply below_drew1) | exact HB.out)) hb); clear HB; have HO412 := n0_; have HB := n1_; clear n0_ n1_; (try clear hb); (try clear hb2); (try clear hk); (try clear hi); (try clear ho0)))
 go_loopg [5, 6] k (fun kq v5 v6 w' => ∃ (x5_1 : ByteArray) (x6_1 : Int), v5 = .string x5_1 ∧ v6 = .int .i64 x6_1 ∧ Aside0 (gussetref01_Quote.l0 kq t409 x5_1 x6_1 = some r) ∧ Aside0 (kq ≤ k) ∧ Aside0 (Kd.R Kd.string 9 w' w.heap.size (fun _ => True) v411 t409) ∧ Aside0 (Below w.heap.size w w'))
 case atStart => exact ⟨((⟨#[34]⟩ : ByteArray)), (0), (by first | rfl | (simp; done) | (simp [*]; done)), (by first | rfl | (simp; done) | (simp [*]; done)), H', ⟨Nat.le_refl _⟩, ⟨by (with_reducible repeat (first | apply Kd.R_alloc | apply Kd.R_drewN | apply Kd.R_drew)); first | exact HO412.out | exact Kd.R_mono HO412.out (fun k_ hk_ h_ => hk_ (h_.trans (ownLen _ _ _ _ _)))⟩, ⟨by repeat (first | (with_reducible first | exact HB.out | apply below_alloc | apply pw_below_drewN | apply below_drew1) | exact HB.out)⟩⟩
 case round =>
  clear H'
  try clear p2
  obtain ⟨x5_1, x6_1, rfl, rfl, HA, HK1, HO_3, HB⟩ := hrel
  cases gk with
  | zero => exact absurd HA.out (by simp [gussetref01_Quote.l0])
  | succ k1 =>
   have H := HA.out
   clear HA
   simp only [gussetref01_Quote.l0] at H
   by_cases c4 : x6_1 < (t409.length : Int)
   rotate_left
   ·
    rw [if_neg c4] at H
    have c4b0 : decide (x6_1 < (t409.length : Int)) = false := decide_eq_false c4
    clear c4
    by_cases c41 : x5_1.size + 1 ≤ 9223372036854775807
    rotate_left
    ·
     rw [if_neg c41] at H
     exact absurd H (by simp)
    rw [if_pos c41] at H
    have c41b0 := eq_true c41
    have c41b1 : decide (x5_1.size + 1 ≤ 9223372036854775807) = true := decide_eq_true c41
    try have c41b2 : (9223372036854775807 < x5_1.size + 1) = False := eq_false (Nat.not_lt.2 c41)
    obtain rfl := Option.some.inj H
    obtain ⟨Ao42, co42, eo42⟩ := Kd.R_slice HO_3.out
    subst eo42
    go_wp2
    go_ret
    exact ⟨by first | rfl | (simp [errW_none, errW_some] <;> rfl) | (simp [*, errW_none, errW_some] <;> rfl), by repeat (first | (with_reducible first | exact HB.out | apply below_alloc | apply pw_below_drewN | apply below_drew1) | exact HB.out)⟩
   rw [if_pos c4] at H
   have c4b0 : decide (x6_1 < (t409.length : Int)) = true := decide_eq_true c4
   clear c4
   by_cases c5 : 0 ≤ x6_1
   rotate_left
   ·
    rw [if_neg c5] at H
    exact absurd H (by simp)
   rw [if_pos c5] at H
   have c5b0 : decide (0 ≤ x6_1) = true := decide_eq_true c5
   clear c5
   replace H := Option.bind_eq_some_iff.mp H
   obtain ⟨⟨t414, t415⟩, A60, H⟩ := H
   replace H : (if (rdOf ByteArray.empty t409 x6_1).toList = ([34] : List UInt8) then (gussetref01_Quote.j1 k1 t409 x5_1 x6_1 t415 true) else (gussetref01_Quote.j1 k1 t409 x5_1 x6_1 t415 ((rdOf ByteArray.empty t409 x6_1).toList == ([92] : List UInt8)))) = some r := H
   have A6 := Aside0.mk A60
   clear A60
   have HC7 := Aside0.mk H
   clear H
   obtain ⟨Ao8, co8, eo8⟩ := Kd.R_slice HO_3.out
   subst eo8
   have p413 : 0 ≤ (x6_1 : Int) := of_decide_eq_true (by first | (with_reducible assumption) | assumption)
   have q413 : x6_1 < (t409.length : Int) := of_decide_eq_true (by first | (with_reducible assumption) | assumption)
   obtain ⟨ad413, e413, hx413_0⟩ := Kd.at_string (Kd.R_reads' HO_3.out).2.2 x6_1 p413 q413
   cases e413
   replace p413 := eq_true p413
   replace q413 := eq_true q413
   go_upto_region 8 with (first | ((with_reducible refine gate_callee (f := 56) rfl ?_); refine goesL_ (some 25) rfl rfl Tryd.func56 (by kernel_rfl) rfl #[.string (rdOf ByteArray.empty t409 x6_1)] rfl (by (try simp only [List.map_toArray, List.map_cons, List.map_nil]); first | done | rfl | (simp only [List.length_drop, List.length_take]; rfl)) ?_; (with_reducible refine (gussetref01_Head.calls k1 (rdOf ByteArray.empty t409 x6_1) t414 t415 _ A6.out).mono ?_); rintro e w' ⟨rfl, ⟨nd, rfl⟩⟩; refine ⟨_, rfl, ?_⟩))
   (try simp only [Act.put, List.setIfInBounds_toArray, List.set_cons_zero, List.set_cons_succ])
   go_cut [34] (fun v34 wc => ∃ (kq : Nat) (x34_6 : Bool), v34 = .bool x34_6 ∧ Aside0 (gussetref01_Quote.j1 kq t409 x5_1 x6_1 t415 x34_6 = some r) ∧ Aside0 (kq ≤ k1) ∧ Aside0 (Kd.R Kd.string 9 wc w.heap.size (fun _ => True) (.slice (some ad413) t409.length co8) t409) ∧ Aside0 (Below w.heap.size w wc))
   case first =>
    have H := HC7.out
    clear HC7
    by_cases c9 : (rdOf ByteArray.empty t409 x6_1).toList = ([34] : List UInt8)
    ·
     rw [if_pos c9] at H
     have c9b0 : ((rdOf ByteArray.empty t409 x6_1).toList == ([34] : List UInt8)) = true := beq_iff_eq.mpr c9
     have c9b1 : ((rdOf ByteArray.empty t409 x6_1).toList != ([34] : List UInt8)) = false := bne_eq_false_iff_eq.mpr c9
     clear c9
     (first | rw [c9b0] | (simp only [i64_w, i32_w]; rw [c9b0]) | skip)
     have H' := Aside0.mk H
     clear H
     have p416 : 0 ≤ (x6_1 : Int) := of_decide_eq_true (by first | (with_reducible assumption) | assumption)
     have q416 : x6_1 < (t409.length : Int) := of_decide_eq_true (by first | (with_reducible assumption) | assumption)
     obtain ⟨ad416, e416, hx416_0⟩ := Kd.at_string (Kd.R_reads' HO_3.out).2.2 x6_1 p416 q416
     obtain rfl : ad413 = ad416 := (by injection e416)
     replace p416 := eq_true p416
     replace q416 := eq_true q416
     go_wp2
     go_meet
     case rel => exact ⟨_, (true), (by first | rfl | (simp; done) | (simp [*]; done)), H', ⟨by have := HK1.out; first | omega | exact Nat.le_refl _⟩, ⟨by (with_reducible repeat (first | apply Kd.R_alloc | apply Kd.R_drewN | apply Kd.R_drew)); first | exact HO_3.out | exact Kd.R_mono HO_3.out (fun k_ hk_ h_ => hk_ (h_.trans (ownLen _ _ _ _ _)))⟩, ⟨by repeat (first | (with_reducible first | exact HB.out | apply below_alloc | apply pw_below_drewN | apply below_drew1) | exact HB.out)⟩⟩
    rw [if_neg c9] at H
    have c9b0 : ((rdOf ByteArray.empty t409 x6_1).toList == ([34] : List UInt8)) = false := beq_eq_false_iff_ne.mpr c9
    have c9b1 : ((rdOf ByteArray.empty t409 x6_1).toList != ([34] : List UInt8)) = true := bne_iff_ne.mpr c9
    (first | rw [c9b0] | (simp only [i64_w, i32_w]; rw [c9b0]) | skip)
    have H' := Aside0.mk H
    clear H
    have p416 : 0 ≤ (x6_1 : Int) := of_decide_eq_true (by first | (with_reducible assumption) | assumption)
    have q416 : x6_1 < (t409.length : Int) := of_decide_eq_true (by first | (with_reducible assumption) | assumption)
    obtain ⟨ad416, e416, hx416_0⟩ := Kd.at_string (Kd.R_reads' HO_3.out).2.2 x6_1 p416 q416
    obtain rfl : ad413 = ad416 := (by injection e416)
    replace p416 := eq_true p416
    replace q416 := eq_true q416
    have p417 : 0 ≤ (x6_1 : Int) := of_decide_eq_true (by first | (with_reducible assumption) | assumption)
    have q417 : x6_1 < (t409.length : Int) := of_decide_eq_true (by first | (with_reducible assumption) | assumption)
    obtain ⟨ad417, e417, hx417_0⟩ := Kd.at_string (Kd.R_reads' HO_3.out).2.2 x6_1 p417 q417
    obtain rfl : ad413 = ad417 := (by injection e417)
    replace p417 := eq_true p417
    replace q417 := eq_true q417
    go_wp2
    go_meet
    case rel => exact ⟨_, (((rdOf ByteArray.empty t409 x6_1).toList == ([92] : List UInt8))), (by first | rfl | (simp; done) | (simp [*]; done)), H', ⟨by have := HK1.out; first | omega | exact Nat.le_refl _⟩, ⟨by (with_reducible repeat (first | apply Kd.R_alloc | apply Kd.R_drewN | apply Kd.R_drew)); first | exact HO_3.out | exact Kd.R_mono HO_3.out (fun k_ hk_ h_ => hk_ (h_.trans (ownLen _ _ _ _ _)))⟩, ⟨by repeat (first | (with_reducible first | exact HB.out | apply below_alloc | apply pw_below_drewN | apply below_drew1) | exact HB.out)⟩⟩
   case rest =>
    clear HC7
    try clear p2
    try clear c4
    try clear c4b0
    try clear p4
    try clear q4
    try clear hx4
    try clear c5
    try clear c5b0
    try clear c6
    try clear c9
    try clear c9b0
    try clear c9b1
    try clear hx413_0
    try clear hx416_0
    try clear hx417_0
    try clear p2
    try clear p413
    try clear p416
    try clear p417
    try clear q413
    try clear q416
    try clear q417
    obtain ⟨kq, x34_6, rfl, HA, HJ6, HO_3, HB⟩ := hcut
    cases kq with
    | zero => exact absurd HA.out (by simp [gussetref01_Quote.j1])
    | succ kj6 =>
     have H := HA.out
     clear HA
     simp only [gussetref01_Quote.j1] at H
     by_cases c10 : x34_6 = true
     ·
      subst c10
      have H1 : (if 0 ≤ x6_1 then (if x6_1 < (t409.length : Int) then (if 1 + (rdOf ByteArray.empty t409 x6_1).size ≤ 9223372036854775807 then (if x5_1.size + ((⟨#[92]⟩ : ByteArray) ++ (rdOf ByteArray.empty t409 x6_1)).size ≤ 9223372036854775807 then (gussetref01_Quote.l0 kj6 t409 (x5_1 ++ ((⟨#[92]⟩ : ByteArray) ++ (rdOf ByteArray.empty t409 x6_1))) (wrap64 (x6_1 + 1))) else (none)) else (none)) else (none)) else (none)) = some r := by rw [if_pos rfl] at H; exact H
      clear H
      have H := H1
      clear H1
      by_cases c11 : 0 ≤ x6_1
      rotate_left
      ·
       rw [if_neg c11] at H
       exact absurd H (by simp)
      rw [if_pos c11] at H
      have c11b0 : decide (0 ≤ x6_1) = true := decide_eq_true c11
      clear c11
      by_cases c12 : x6_1 < (t409.length : Int)
      rotate_left
      ·
       rw [if_neg c12] at H
       exact absurd H (by simp)
      rw [if_pos c12] at H
      have c12b0 : decide (x6_1 < (t409.length : Int)) = true := decide_eq_true c12
      clear c12
      by_cases c13 : 1 + (rdOf ByteArray.empty t409 x6_1).size ≤ 9223372036854775807
      rotate_left
      ·
       rw [if_neg c13] at H
       exact absurd H (by simp)
      rw [if_pos c13] at H
      have c13b0 := eq_true c13
      have c13b1 : decide (1 + (rdOf ByteArray.empty t409 x6_1).size ≤ 9223372036854775807) = true := decide_eq_true c13
      try have c13b2 : (9223372036854775807 < 1 + (rdOf ByteArray.empty t409 x6_1).size) = False := eq_false (Nat.not_lt.2 c13)
      by_cases c14 : x5_1.size + ((⟨#[92]⟩ : ByteArray) ++ (rdOf ByteArray.empty t409 x6_1)).size ≤ 9223372036854775807
      rotate_left
      ·
       rw [if_neg c14] at H
       exact absurd H (by simp)
      rw [if_pos c14] at H
      have c14b0 := eq_true c14
      have c14b9 := c14
      (try simp [size_mk_] at c14b9)
      (try have c14b8 := eq_false (Nat.not_lt.2 c14b9))
      have c14b1 : decide (x5_1.size + ((⟨#[92]⟩ : ByteArray) ++ (rdOf ByteArray.empty t409 x6_1)).size ≤ 9223372036854775807) = true := decide_eq_true c14
      try have c14b2 : (9223372036854775807 < x5_1.size + ((⟨#[92]⟩ : ByteArray) ++ (rdOf ByteArray.empty t409 x6_1)).size) = False := eq_false (Nat.not_lt.2 c14)
      have H' := Aside0.mk H
      clear H
      have p418 : 0 ≤ (x6_1 : Int) := of_decide_eq_true (by first | (with_reducible assumption) | assumption)
      have q418 : x6_1 < (t409.length : Int) := of_decide_eq_true (by first | (with_reducible assumption) | assumption)
      obtain ⟨ad418, e418, hx418_0⟩ := Kd.at_string (Kd.R_reads' HO_3.out).2.2 x6_1 p418 q418
      obtain rfl : ad413 = ad418 := (by injection e418)
      replace p418 := eq_true p418
      replace q418 := eq_true q418
      go_wp2
      go_roundg kj6
      case measure => have := HK1.out; have := HJ6.out; omega
      case rel => exact ⟨(x5_1 ++ ((⟨#[92]⟩ : ByteArray) ++ (rdOf ByteArray.empty t409 x6_1))), (wrap64 (x6_1 + 1)), (by first | rfl | (simp; done) | (simp [*]; done)), (by first | rfl | (simp; done) | (simp [*]; done)), H', ⟨by have := HK1.out; have := HJ6.out; omega⟩, ⟨by (with_reducible repeat (first | apply Kd.R_alloc | apply Kd.R_drewN | apply Kd.R_drew)); first | exact HO_3.out | exact Kd.R_mono HO_3.out (fun k_ hk_ h_ => hk_ (h_.trans (ownLen _ _ _ _ _)))⟩, ⟨by repeat (first | (with_reducible first | exact HB.out | apply below_alloc | apply pw_below_drewN | apply below_drew1) | exact HB.out)⟩⟩
     replace c10 := Bool.eq_false_iff.mpr c10
     subst c10
     have H1 : (if t415 = 10 then (if x5_1.size + 2 ≤ 9223372036854775807 then (gussetref01_Quote.l0 kj6 t409 (x5_1 ++ (⟨#[92, 110]⟩ : ByteArray)) (wrap64 (x6_1 + 1))) else (none)) else (if t415 = 9 then (if x5_1.size + 2 ≤ 9223372036854775807 then (gussetref01_Quote.l0 kj6 t409 (x5_1 ++ (⟨#[92, 116]⟩ : ByteArray)) (wrap64 (x6_1 + 1))) else (none)) else (if t415 < 0 then (if 0 ≤ x6_1 then (if x6_1 < (t409.length : Int) then (if 0 < ((rdOf ByteArray.empty t409 x6_1).size : Int) then ((gussetref01_hex.f kj6 (wrap64 (bt (rdOf ByteArray.empty t409 x6_1) 0))).bind fun t420 => (if 3 + t420.size ≤ 9223372036854775807 then (if ((⟨#[92, 117, 123]⟩ : ByteArray) ++ t420).size + 1 ≤ 9223372036854775807 then (if x5_1.size + (((⟨#[92, 117, 123]⟩ : ByteArray) ++ t420) ++ (⟨#[125]⟩ : ByteArray)).size ≤ 9223372036854775807 then (gussetref01_Quote.l0 kj6 t409 (x5_1 ++ (((⟨#[92, 117, 123]⟩ : ByteArray) ++ t420) ++ (⟨#[125]⟩ : ByteArray))) (wrap64 (x6_1 + 1))) else (none)) else (none)) else (none))) else (none)) else (none)) else (none)) else (if t415 < 32 then ((gussetref01_hex.f kj6 t415).bind fun t421 => (if 3 + t421.size ≤ 9223372036854775807 then (if ((⟨#[92, 117, 123]⟩ : ByteArray) ++ t421).size + 1 ≤ 9223372036854775807 then (if x5_1.size + (((⟨#[92, 117, 123]⟩ : ByteArray) ++ t421) ++ (⟨#[125]⟩ : ByteArray)).size ≤ 9223372036854775807 then (gussetref01_Quote.l0 kj6 t409 (x5_1 ++ (((⟨#[92, 117, 123]⟩ : ByteArray) ++ t421) ++ (⟨#[125]⟩ : ByteArray))) (wrap64 (x6_1 + 1))) else (none)) else (none)) else (none))) else (if t415 = 127 then ((gussetref01_hex.f kj6 t415).bind fun t422 => (if 3 + t422.size ≤ 9223372036854775807 then (if ((⟨#[92, 117, 123]⟩ : ByteArray) ++ t422).size + 1 ≤ 9223372036854775807 then (if x5_1.size + (((⟨#[92, 117, 123]⟩ : ByteArray) ++ t422) ++ (⟨#[125]⟩ : ByteArray)).size ≤ 9223372036854775807 then (gussetref01_Quote.l0 kj6 t409 (x5_1 ++ (((⟨#[92, 117, 123]⟩ : ByteArray) ++ t422) ++ (⟨#[125]⟩ : ByteArray))) (wrap64 (x6_1 + 1))) else (none)) else (none)) else (none))) else (if 0 ≤ x6_1 then (if x6_1 < (t409.length : Int) then (if x5_1.size + (rdOf ByteArray.empty t409 x6_1).size ≤ 9223372036854775807 then (gussetref01_Quote.l0 kj6 t409 (x5_1 ++ (rdOf ByteArray.empty t409 x6_1)) (wrap64 (x6_1 + 1))) else (none)) else (none)) else (none))))))) = some r := by rw [if_neg (show ¬ (false = true) by decide)] at H; exact H
     clear H
     have H := H1
     clear H1
     by_cases c15 : t415 = 10
     ·
      rw [if_pos c15] at H
      have c15b0 : (t415 == 10) = true := beq_iff_eq.mpr c15
      have c15b1 : (t415 != 10) = false := bne_eq_false_iff_eq.mpr c15
      clear c15
      by_cases c16 : x5_1.size + 2 ≤ 9223372036854775807
      rotate_left
      ·
       rw [if_neg c16] at H
       exact absurd H (by simp)
      rw [if_pos c16] at H
      have c16b0 := eq_true c16
      have c16b1 : decide (x5_1.size + 2 ≤ 9223372036854775807) = true := decide_eq_true c16
      try have c16b2 : (9223372036854775807 < x5_1.size + 2) = False := eq_false (Nat.not_lt.2 c16)
      have H' := Aside0.mk H
      clear H
      go_wp2
      go_roundg kj6
      case measure => have := HK1.out; have := HJ6.out; omega
      case rel => exact ⟨(x5_1 ++ (⟨#[92, 110]⟩ : ByteArray)), (wrap64 (x6_1 + 1)), (by first | rfl | (simp; done) | (simp [*]; done)), (by first | rfl | (simp; done) | (simp [*]; done)), H', ⟨by have := HK1.out; have := HJ6.out; omega⟩, ⟨by (with_reducible repeat (first | apply Kd.R_alloc | apply Kd.R_drewN | apply Kd.R_drew)); first | exact HO_3.out | exact Kd.R_mono HO_3.out (fun k_ hk_ h_ => hk_ (h_.trans (ownLen _ _ _ _ _)))⟩, ⟨by repeat (first | (with_reducible first | exact HB.out | apply below_alloc | apply pw_below_drewN | apply below_drew1) | exact HB.out)⟩⟩
     rw [if_neg c15] at H
     have c15b0 : (t415 == 10) = false := beq_eq_false_iff_ne.mpr c15
     have c15b1 : (t415 != 10) = true := bne_iff_ne.mpr c15
     by_cases c17 : t415 = 9
     ·
      rw [if_pos c17] at H
      have c17b0 : (t415 == 9) = true := beq_iff_eq.mpr c17
      have c17b1 : (t415 != 9) = false := bne_eq_false_iff_eq.mpr c17
      clear c17
      by_cases c18 : x5_1.size + 2 ≤ 9223372036854775807
      rotate_left
      ·
       rw [if_neg c18] at H
       exact absurd H (by simp)
      rw [if_pos c18] at H
      have c18b0 := eq_true c18
      have c18b1 : decide (x5_1.size + 2 ≤ 9223372036854775807) = true := decide_eq_true c18
      try have c18b2 : (9223372036854775807 < x5_1.size + 2) = False := eq_false (Nat.not_lt.2 c18)
      have H' := Aside0.mk H
      clear H
      go_wp2
      go_roundg kj6
      case measure => have := HK1.out; have := HJ6.out; omega
      case rel => exact ⟨(x5_1 ++ (⟨#[92, 116]⟩ : ByteArray)), (wrap64 (x6_1 + 1)), (by first | rfl | (simp; done) | (simp [*]; done)), (by first | rfl | (simp; done) | (simp [*]; done)), H', ⟨by have := HK1.out; have := HJ6.out; omega⟩, ⟨by (with_reducible repeat (first | apply Kd.R_alloc | apply Kd.R_drewN | apply Kd.R_drew)); first | exact HO_3.out | exact Kd.R_mono HO_3.out (fun k_ hk_ h_ => hk_ (h_.trans (ownLen _ _ _ _ _)))⟩, ⟨by repeat (first | (with_reducible first | exact HB.out | apply below_alloc | apply pw_below_drewN | apply below_drew1) | exact HB.out)⟩⟩
     rw [if_neg c17] at H
     have c17b0 : (t415 == 9) = false := beq_eq_false_iff_ne.mpr c17
     have c17b1 : (t415 != 9) = true := bne_iff_ne.mpr c17
     by_cases c19 : t415 < 0
     ·
      rw [if_pos c19] at H
      have c19b0 : decide (t415 < 0) = true := decide_eq_true c19
      clear c19
      by_cases c20 : 0 ≤ x6_1
      rotate_left
      ·
       rw [if_neg c20] at H
       exact absurd H (by simp)
      rw [if_pos c20] at H
      have c20b0 : decide (0 ≤ x6_1) = true := decide_eq_true c20
      clear c20
      by_cases c21 : x6_1 < (t409.length : Int)
      rotate_left
      ·
       rw [if_neg c21] at H
       exact absurd H (by simp)
      rw [if_pos c21] at H
      have c21b0 : decide (x6_1 < (t409.length : Int)) = true := decide_eq_true c21
      clear c21
      by_cases c22 : 0 < ((rdOf ByteArray.empty t409 x6_1).size : Int)
      rotate_left
      ·
       rw [if_neg c22] at H
       exact absurd H (by simp)
      rw [if_pos c22] at H
      have c22b0 : decide (0 < ((rdOf ByteArray.empty t409 x6_1).size : Int)) = true := decide_eq_true c22
      have c22b1 : decide (0 < (rdOf ByteArray.empty t409 x6_1).size) = true := decide_eq_true (by omega)
      clear c22
      replace H := Option.bind_eq_some_iff.mp H
      obtain ⟨t420, A240, H⟩ := H
      replace H : (if 3 + t420.size ≤ 9223372036854775807 then (if ((⟨#[92, 117, 123]⟩ : ByteArray) ++ t420).size + 1 ≤ 9223372036854775807 then (if x5_1.size + (((⟨#[92, 117, 123]⟩ : ByteArray) ++ t420) ++ (⟨#[125]⟩ : ByteArray)).size ≤ 9223372036854775807 then (gussetref01_Quote.l0 kj6 t409 (x5_1 ++ (((⟨#[92, 117, 123]⟩ : ByteArray) ++ t420) ++ (⟨#[125]⟩ : ByteArray))) (wrap64 (x6_1 + 1))) else (none)) else (none)) else (none)) = some r := H
      have A24 := Aside0.mk A240
      clear A240
      by_cases c25 : 3 + t420.size ≤ 9223372036854775807
      rotate_left
      ·
       rw [if_neg c25] at H
       exact absurd H (by simp)
      rw [if_pos c25] at H
      have c25b0 := eq_true c25
      have c25b1 : decide (3 + t420.size ≤ 9223372036854775807) = true := decide_eq_true c25
      try have c25b2 : (9223372036854775807 < 3 + t420.size) = False := eq_false (Nat.not_lt.2 c25)
      by_cases c26 : ((⟨#[92, 117, 123]⟩ : ByteArray) ++ t420).size + 1 ≤ 9223372036854775807
      rotate_left
      ·
       rw [if_neg c26] at H
       exact absurd H (by simp)
      rw [if_pos c26] at H
      have c26b0 := eq_true c26
      have c26b9 := c26
      (try simp [size_mk_] at c26b9)
      (try have c26b8 := eq_false (Nat.not_lt.2 c26b9))
      have c26b1 : decide (((⟨#[92, 117, 123]⟩ : ByteArray) ++ t420).size + 1 ≤ 9223372036854775807) = true := decide_eq_true c26
      try have c26b2 : (9223372036854775807 < ((⟨#[92, 117, 123]⟩ : ByteArray) ++ t420).size + 1) = False := eq_false (Nat.not_lt.2 c26)
      by_cases c27 : x5_1.size + (((⟨#[92, 117, 123]⟩ : ByteArray) ++ t420) ++ (⟨#[125]⟩ : ByteArray)).size ≤ 9223372036854775807
      rotate_left
      ·
       rw [if_neg c27] at H
       exact absurd H (by simp)
      rw [if_pos c27] at H
      have c27b0 := eq_true c27
      have c27b9 := c27
      (try simp [size_mk_] at c27b9)
      (try have c27b8 := eq_false (Nat.not_lt.2 c27b9))
      have c27b1 : decide (x5_1.size + (((⟨#[92, 117, 123]⟩ : ByteArray) ++ t420) ++ (⟨#[125]⟩ : ByteArray)).size ≤ 9223372036854775807) = true := decide_eq_true c27
      try have c27b2 : (9223372036854775807 < x5_1.size + (((⟨#[92, 117, 123]⟩ : ByteArray) ++ t420) ++ (⟨#[125]⟩ : ByteArray)).size) = False := eq_false (Nat.not_lt.2 c27)
      have H' := Aside0.mk H
      clear H
      have p419 : 0 ≤ (x6_1 : Int) := of_decide_eq_true (by first | (with_reducible assumption) | assumption)
      have q419 : x6_1 < (t409.length : Int) := of_decide_eq_true (by first | (with_reducible assumption) | assumption)
      obtain ⟨ad419, e419, hx419_0⟩ := Kd.at_string (Kd.R_reads' HO_3.out).2.2 x6_1 p419 q419
      obtain rfl : ad413 = ad419 := (by injection e419)
      replace p419 := eq_true p419
      replace q419 := eq_true q419
      have p23 : 0 ≤ (0 : Int) := (by omega)
      have q23 : 0 < (rdOf ByteArray.empty t409 x6_1).size := (by have : (0 : Int) < ((rdOf ByteArray.empty t409 x6_1).size : Int) := of_decide_eq_true (by first | (with_reducible assumption) | assumption); omega)
      have hx23 : ∀ h : 0 < (rdOf ByteArray.empty t409 x6_1).size, (((rdOf ByteArray.empty t409 x6_1)[0]'h).toNat : Int) = bt (rdOf ByteArray.empty t409 x6_1) 0 := bt_at (rdOf ByteArray.empty t409 x6_1) 0
      clear p23
      have qi23 : (0 < ((rdOf ByteArray.empty t409 x6_1).size : Int)) = True := eq_true (of_decide_eq_true (by first | (with_reducible assumption) | assumption))
      replace q23 := eq_true q23
      go_wp2_with (first | ((with_reducible refine gate_callee (f := 65) rfl ?_); refine goesL_ (some 74) rfl rfl Tryd.func65 (by kernel_rfl) rfl #[.int .i64 (wrap64 (bt (rdOf ByteArray.empty t409 x6_1) 0))] rfl (by (try simp only [List.map_toArray, List.map_cons, List.map_nil]); first | done | rfl | (simp only [List.length_drop, List.length_take]; rfl)) ?_; (with_reducible refine (gussetref01_hex.calls kj6 (wrap64 (bt (rdOf ByteArray.empty t409 x6_1) 0)) t420 _ A24.out).mono ?_); rintro e w' ⟨rfl, ⟨nd, rfl⟩⟩; refine ⟨_, rfl, ?_⟩))
      go_roundg kj6
      case measure => have := HK1.out; have := HJ6.out; omega
      case rel => exact ⟨(x5_1 ++ (((⟨#[92, 117, 123]⟩ : ByteArray) ++ t420) ++ (⟨#[125]⟩ : ByteArray))), (wrap64 (x6_1 + 1)), (by first | rfl | (simp; done) | (simp [*]; done)), (by first | rfl | (simp; done) | (simp [*]; done)), H', ⟨by have := HK1.out; have := HJ6.out; omega⟩, ⟨by (with_reducible repeat (first | apply Kd.R_alloc | apply Kd.R_drewN | apply Kd.R_drew)); first | exact HO_3.out | exact Kd.R_mono HO_3.out (fun k_ hk_ h_ => hk_ (h_.trans (ownLen _ _ _ _ _)))⟩, ⟨by repeat (first | (with_reducible first | exact HB.out | apply below_alloc | apply pw_below_drewN | apply below_drew1) | exact HB.out)⟩⟩
     rw [if_neg c19] at H
     have c19b0 : decide (t415 < 0) = false := decide_eq_false c19
     clear c19
     by_cases c28 : t415 < 32
     ·
      rw [if_pos c28] at H
      have c28b0 : decide (t415 < 32) = true := decide_eq_true c28
      clear c28
      replace H := Option.bind_eq_some_iff.mp H
      obtain ⟨t421, A290, H⟩ := H
      replace H : (if 3 + t421.size ≤ 9223372036854775807 then (if ((⟨#[92, 117, 123]⟩ : ByteArray) ++ t421).size + 1 ≤ 9223372036854775807 then (if x5_1.size + (((⟨#[92, 117, 123]⟩ : ByteArray) ++ t421) ++ (⟨#[125]⟩ : ByteArray)).size ≤ 9223372036854775807 then (gussetref01_Quote.l0 kj6 t409 (x5_1 ++ (((⟨#[92, 117, 123]⟩ : ByteArray) ++ t421) ++ (⟨#[125]⟩ : ByteArray))) (wrap64 (x6_1 + 1))) else (none)) else (none)) else (none)) = some r := H
      have A29 := Aside0.mk A290
      clear A290
      by_cases c30 : 3 + t421.size ≤ 9223372036854775807
      rotate_left
      ·
       rw [if_neg c30] at H
       exact absurd H (by simp)
      rw [if_pos c30] at H
      have c30b0 := eq_true c30
      have c30b1 : decide (3 + t421.size ≤ 9223372036854775807) = true := decide_eq_true c30
      try have c30b2 : (9223372036854775807 < 3 + t421.size) = False := eq_false (Nat.not_lt.2 c30)
      by_cases c31 : ((⟨#[92, 117, 123]⟩ : ByteArray) ++ t421).size + 1 ≤ 9223372036854775807
      rotate_left
      ·
       rw [if_neg c31] at H
       exact absurd H (by simp)
      rw [if_pos c31] at H
      have c31b0 := eq_true c31
      have c31b9 := c31
      (try simp [size_mk_] at c31b9)
      (try have c31b8 := eq_false (Nat.not_lt.2 c31b9))
      have c31b1 : decide (((⟨#[92, 117, 123]⟩ : ByteArray) ++ t421).size + 1 ≤ 9223372036854775807) = true := decide_eq_true c31
      try have c31b2 : (9223372036854775807 < ((⟨#[92, 117, 123]⟩ : ByteArray) ++ t421).size + 1) = False := eq_false (Nat.not_lt.2 c31)
      by_cases c32 : x5_1.size + (((⟨#[92, 117, 123]⟩ : ByteArray) ++ t421) ++ (⟨#[125]⟩ : ByteArray)).size ≤ 9223372036854775807
      rotate_left
      ·
       rw [if_neg c32] at H
       exact absurd H (by simp)
      rw [if_pos c32] at H
      have c32b0 := eq_true c32
      have c32b9 := c32
      (try simp [size_mk_] at c32b9)
      (try have c32b8 := eq_false (Nat.not_lt.2 c32b9))
      have c32b1 : decide (x5_1.size + (((⟨#[92, 117, 123]⟩ : ByteArray) ++ t421) ++ (⟨#[125]⟩ : ByteArray)).size ≤ 9223372036854775807) = true := decide_eq_true c32
      try have c32b2 : (9223372036854775807 < x5_1.size + (((⟨#[92, 117, 123]⟩ : ByteArray) ++ t421) ++ (⟨#[125]⟩ : ByteArray)).size) = False := eq_false (Nat.not_lt.2 c32)
      have H' := Aside0.mk H
      clear H
      go_wp2_with (first | ((with_reducible refine gate_callee (f := 65) rfl ?_); refine goesL_ (some 87) rfl rfl Tryd.func65 (by kernel_rfl) rfl #[.int .i64 t415] rfl (by (try simp only [List.map_toArray, List.map_cons, List.map_nil]); first | done | rfl | (simp only [List.length_drop, List.length_take]; rfl)) ?_; (with_reducible refine (gussetref01_hex.calls kj6 t415 t421 _ A29.out).mono ?_); rintro e w' ⟨rfl, ⟨nd, rfl⟩⟩; refine ⟨_, rfl, ?_⟩))
      go_roundg kj6
      case measure => have := HK1.out; have := HJ6.out; omega
      case rel => exact ⟨(x5_1 ++ (((⟨#[92, 117, 123]⟩ : ByteArray) ++ t421) ++ (⟨#[125]⟩ : ByteArray))), (wrap64 (x6_1 + 1)), (by first | rfl | (simp; done) | (simp [*]; done)), (by first | rfl | (simp; done) | (simp [*]; done)), H', ⟨by have := HK1.out; have := HJ6.out; omega⟩, ⟨by (with_reducible repeat (first | apply Kd.R_alloc | apply Kd.R_drewN | apply Kd.R_drew)); first | exact HO_3.out | exact Kd.R_mono HO_3.out (fun k_ hk_ h_ => hk_ (h_.trans (ownLen _ _ _ _ _)))⟩, ⟨by repeat (first | (with_reducible first | exact HB.out | apply below_alloc | apply pw_below_drewN | apply below_drew1) | exact HB.out)⟩⟩
     rw [if_neg c28] at H
     have c28b0 : decide (t415 < 32) = false := decide_eq_false c28
     clear c28
     by_cases c33 : t415 = 127
     rotate_left
     ·
      rw [if_neg c33] at H
      have c33b0 : (t415 == 127) = false := beq_eq_false_iff_ne.mpr c33
      have c33b1 : (t415 != 127) = true := bne_iff_ne.mpr c33
      by_cases c38 : 0 ≤ x6_1
      rotate_left
      ·
       rw [if_neg c38] at H
       exact absurd H (by simp)
      rw [if_pos c38] at H
      have c38b0 : decide (0 ≤ x6_1) = true := decide_eq_true c38
      clear c38
      by_cases c39 : x6_1 < (t409.length : Int)
      rotate_left
      ·
       rw [if_neg c39] at H
       exact absurd H (by simp)
      rw [if_pos c39] at H
      have c39b0 : decide (x6_1 < (t409.length : Int)) = true := decide_eq_true c39
      clear c39
      by_cases c40 : x5_1.size + (rdOf ByteArray.empty t409 x6_1).size ≤ 9223372036854775807
      rotate_left
      ·
       rw [if_neg c40] at H
       exact absurd H (by simp)
      rw [if_pos c40] at H
      have c40b0 := eq_true c40
      have c40b1 : decide (x5_1.size + (rdOf ByteArray.empty t409 x6_1).size ≤ 9223372036854775807) = true := decide_eq_true c40
      try have c40b2 : (9223372036854775807 < x5_1.size + (rdOf ByteArray.empty t409 x6_1).size) = False := eq_false (Nat.not_lt.2 c40)
      have H' := Aside0.mk H
      clear H
      have p423 : 0 ≤ (x6_1 : Int) := of_decide_eq_true (by first | (with_reducible assumption) | assumption)
      have q423 : x6_1 < (t409.length : Int) := of_decide_eq_true (by first | (with_reducible assumption) | assumption)
      obtain ⟨ad423, e423, hx423_0⟩ := Kd.at_string (Kd.R_reads' HO_3.out).2.2 x6_1 p423 q423
      obtain rfl : ad413 = ad423 := (by injection e423)
      replace p423 := eq_true p423
      replace q423 := eq_true q423
      go_wp2
      go_roundg kj6
      case measure => have := HK1.out; have := HJ6.out; omega
      case rel => exact ⟨(x5_1 ++ (rdOf ByteArray.empty t409 x6_1)), (wrap64 (x6_1 + 1)), (by first | rfl | (simp; done) | (simp [*]; done)), (by first | rfl | (simp; done) | (simp [*]; done)), H', ⟨by have := HK1.out; have := HJ6.out; omega⟩, ⟨by (with_reducible repeat (first | apply Kd.R_alloc | apply Kd.R_drewN | apply Kd.R_drew)); first | exact HO_3.out | exact Kd.R_mono HO_3.out (fun k_ hk_ h_ => hk_ (h_.trans (ownLen _ _ _ _ _)))⟩, ⟨by repeat (first | (with_reducible first | exact HB.out | apply below_alloc | apply pw_below_drewN | apply below_drew1) | exact HB.out)⟩⟩
     rw [if_pos c33] at H
     have c33b0 : (t415 == 127) = true := beq_iff_eq.mpr c33
     have c33b1 : (t415 != 127) = false := bne_eq_false_iff_eq.mpr c33
     clear c33
     replace H := Option.bind_eq_some_iff.mp H
     obtain ⟨t422, A340, H⟩ := H
     replace H : (if 3 + t422.size ≤ 9223372036854775807 then (if ((⟨#[92, 117, 123]⟩ : ByteArray) ++ t422).size + 1 ≤ 9223372036854775807 then (if x5_1.size + (((⟨#[92, 117, 123]⟩ : ByteArray) ++ t422) ++ (⟨#[125]⟩ : ByteArray)).size ≤ 9223372036854775807 then (gussetref01_Quote.l0 kj6 t409 (x5_1 ++ (((⟨#[92, 117, 123]⟩ : ByteArray) ++ t422) ++ (⟨#[125]⟩ : ByteArray))) (wrap64 (x6_1 + 1))) else (none)) else (none)) else (none)) = some r := H
     have A34 := Aside0.mk A340
     clear A340
     by_cases c35 : 3 + t422.size ≤ 9223372036854775807
     rotate_left
     ·
      rw [if_neg c35] at H
      exact absurd H (by simp)
     rw [if_pos c35] at H
     have c35b0 := eq_true c35
     have c35b1 : decide (3 + t422.size ≤ 9223372036854775807) = true := decide_eq_true c35
     try have c35b2 : (9223372036854775807 < 3 + t422.size) = False := eq_false (Nat.not_lt.2 c35)
     by_cases c36 : ((⟨#[92, 117, 123]⟩ : ByteArray) ++ t422).size + 1 ≤ 9223372036854775807
     rotate_left
     ·
      rw [if_neg c36] at H
      exact absurd H (by simp)
     rw [if_pos c36] at H
     have c36b0 := eq_true c36
     have c36b9 := c36
     (try simp [size_mk_] at c36b9)
     (try have c36b8 := eq_false (Nat.not_lt.2 c36b9))
     have c36b1 : decide (((⟨#[92, 117, 123]⟩ : ByteArray) ++ t422).size + 1 ≤ 9223372036854775807) = true := decide_eq_true c36
     try have c36b2 : (9223372036854775807 < ((⟨#[92, 117, 123]⟩ : ByteArray) ++ t422).size + 1) = False := eq_false (Nat.not_lt.2 c36)
     by_cases c37 : x5_1.size + (((⟨#[92, 117, 123]⟩ : ByteArray) ++ t422) ++ (⟨#[125]⟩ : ByteArray)).size ≤ 9223372036854775807
     rotate_left
     ·
      rw [if_neg c37] at H
      exact absurd H (by simp)
     rw [if_pos c37] at H
     have c37b0 := eq_true c37
     have c37b9 := c37
     (try simp [size_mk_] at c37b9)
     (try have c37b8 := eq_false (Nat.not_lt.2 c37b9))
     have c37b1 : decide (x5_1.size + (((⟨#[92, 117, 123]⟩ : ByteArray) ++ t422) ++ (⟨#[125]⟩ : ByteArray)).size ≤ 9223372036854775807) = true := decide_eq_true c37
     try have c37b2 : (9223372036854775807 < x5_1.size + (((⟨#[92, 117, 123]⟩ : ByteArray) ++ t422) ++ (⟨#[125]⟩ : ByteArray)).size) = False := eq_false (Nat.not_lt.2 c37)
     have H' := Aside0.mk H
     clear H
     go_wp2_with (first | ((with_reducible refine gate_callee (f := 65) rfl ?_); refine goesL_ (some 87) rfl rfl Tryd.func65 (by kernel_rfl) rfl #[.int .i64 t415] rfl (by (try simp only [List.map_toArray, List.map_cons, List.map_nil]); first | done | rfl | (simp only [List.length_drop, List.length_take]; rfl)) ?_; (with_reducible refine (gussetref01_hex.calls kj6 t415 t422 _ A34.out).mono ?_); rintro e w' ⟨rfl, ⟨nd, rfl⟩⟩; refine ⟨_, rfl, ?_⟩))
     go_roundg kj6
     case measure => have := HK1.out; have := HJ6.out; omega
     case rel => exact ⟨(x5_1 ++ (((⟨#[92, 117, 123]⟩ : ByteArray) ++ t422) ++ (⟨#[125]⟩ : ByteArray))), (wrap64 (x6_1 + 1)), (by first | rfl | (simp; done) | (simp [*]; done)), (by first | rfl | (simp; done) | (simp [*]; done)), H', ⟨by have := HK1.out; have := HJ6.out; omega⟩, ⟨by (with_reducible repeat (first | apply Kd.R_alloc | apply Kd.R_drewN | apply Kd.R_drew)); first | exact HO_3.out | exact Kd.R_mono HO_3.out (fun k_ hk_ h_ => hk_ (h_.trans (ownLen _ _ _ _ _)))⟩, ⟨by repeat (first | (with_reducible first | exact HB.out | apply below_alloc | apply pw_below_drewN | apply below_drew1) | exact HB.out)⟩⟩
end Go.Proofs.YtbnpgobjbokboaaDoor.PLex
