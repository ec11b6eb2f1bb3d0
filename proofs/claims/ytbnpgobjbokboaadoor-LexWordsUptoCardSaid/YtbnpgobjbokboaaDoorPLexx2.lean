/- Contracts: lex_word, strconv_Itoa_40, strconv_ParseInt_53, lex_number, runes_Unquote. -/
import Derived.Test.YtbnpgobjbokboaaDoorPLexx0
import Derived.Test.YtbnpgobjbokboaaDoorPLexx1
import Derived.BigCall
import Derived.BigQuiet
import Derived.Deep.QuietTactic
import Derived.Test.YtbnpgobjbokboaaDoorEsc
namespace Go.Proofs.YtbnpgobjbokboaaDoor.PLex
open Go.RowKit Go.Proofs.YtbnpgobjbokboaaDoorW.PrintWords Go.Proofs.YtbnpgobjbokboaaDoorW.PrintLast Go.Proofs.YtbnpgobjbokboaaDoorW.PrintMore
attribute [local go_sem] max2_int min2_int max_two min_two max_three min_three max_four min_four   -- for this text's walks alone
set_option linter.unusedVariables false
set_option linter.unusedSimpArgs false

/-! ### lex_word: function 30 -/
def lex_word.l0 : Nat → ByteArray → List ByteArray → Int → Int → Option (Bool)
 | 0, _, _, _, _ => none
 | k + 1, x0, x5, x6, x7 => if x7 < x6 then (if 0 ≤ x7 then (if x7 < (x5.length : Int) then (if (rdOf ByteArray.empty x5 x7).toList = x0.toList then (some true) else (lex_word.l0 k x0 x5 x6 (wrap64 (x7 + 1)))) else (none)) else (none)) else (some false)
def lex_word.f (k : Nat) (a0 : ByteArray) : Option (Bool) := (lex_Words.f).bind fun t118 => (lex_word.l0 k a0 t118 (t118.length : Int) 0)
theorem lex_word.mono_l : ∀ k, (∀ y0 y1 y2 y3, LeO (lex_word.l0 k y0 y1 y2 y3) (lex_word.l0 (k + 1) y0 y1 y2 y3))
 | 0 => fun _ _ _ _ r h => by simp [lex_word.l0] at h
 | k + 1 => by
  have ih0 := lex_word.mono_l k
  ·
   intro y0 y1 y2 y3
   unfold lex_word.l0
   repeat' first
   | (with_reducible exact ih0 _ _ _ _)
   | (with_reducible exact LeO.refl _)
   | (with_reducible exact LeO.none _)
   | (with_reducible refine LeO.ite ?_ ?_)
   | (with_reducible refine LeO.bind ?_ (fun _ => ?_))
   | exact ih0 _ _ _ _
   | exact LeO.none _
   | refine LeO.ite ?_ ?_
   | refine LeO.bind ?_ (fun _ => ?_)
theorem lex_word.mono : ∀ a0 k, LeO (lex_word.f k a0) (lex_word.f (k + 1) a0) := by
 intro a0 k
 have ih0 := lex_word.mono_l k
 unfold lex_word.f
 repeat' first
   | (with_reducible exact ih0 _ _ _ _)
   | (with_reducible exact LeO.refl _)
   | (with_reducible exact LeO.none _)
   | (with_reducible refine LeO.ite ?_ ?_)
   | (with_reducible refine LeO.bind ?_ (fun _ => ?_))
   | exact ih0 _ _ _ _
   | exact LeO.none _
   | refine LeO.ite ?_ ?_
   | refine LeO.bind ?_ (fun _ => ?_)
set_option maxHeartbeats 8000000 in
set_option maxRecDepth 100000 in
theorem lex_word.calls (k : Nat) (a0 : ByteArray) (r : Bool) (w : World) (h : lex_word.f k a0 = some r) :
  Calls Tryd.prog 30 #[.string a0] w fun e w' => e = .returned (.bool r) ∧ Below w.heap.size w w' := by
 have HB := Aside0.mk (Below.refl w.heap.size w)
 have H : ((lex_Words.f).bind fun t118 => (lex_word.l0 k a0 t118 (t118.length : Int) 0)) = some r := h
 clear h
 replace H := Option.bind_eq_some_iff.mp H
 obtain ⟨t118, A20, H⟩ := H
 replace H : (lex_word.l0 k a0 t118 (t118.length : Int) 0) = some r := H
 have A2 := Aside0.mk A20
 clear A20
 have H' := Aside0.mk H
 clear H
 go_enter Tryd.func30, Tryd.ntmps30
 go_wp2_with (first | ((with_reducible refine gate_callee (f := 16) rfl ?_); refine goesL_ (some 5) rfl rfl Tryd.func16 (by kernel_rfl) rfl #[] rfl (by (try simp only [List.map_toArray, List.map_cons, List.map_nil]); first | done | rfl | (simp only [List.length_drop, List.length_take]; rfl)) ?_; (with_reducible refine (lex_Words.calls  t118 _ A2.out).mono ?_); rintro e w3 ⟨v119, rfl, ho0, hb⟩; refine ⟨_, rfl, ?_⟩; have n0_ := Aside0.mk (Kd.R_lower ho0 (below_size (by repeat (first | (with_reducible first | exact HB.out | apply below_alloc | apply pw_below_drewN | apply below_drew1) | exact HB.out)))); have n1_ := Aside0.mk (below_step (by repeat (first | (with_reducible first | exact HB.out | apply below_alloc | apply pw_below_drewN | apply below_drew1) | exact HB.out)) hb); clear HB; have HO120 := n0_; have HB := n1_; clear n0_ n1_; (try clear hb); (try clear hb2); (try clear hk); (try clear hi); (try clear ho0); obtain ⟨Ao4, co4, eo4⟩ := Kd.R_slice HO120.out; subst eo4))
 go_loopg [7] k (fun kq v7 w' => ∃ (x7_1 : Int), v7 = .int .i64 x7_1 ∧ Aside0 (lex_word.l0 kq a0 t118 (t118.length : Int) x7_1 = some r) ∧ Aside0 (kq ≤ k) ∧ Aside0 (Kd.R Kd.string 9 w' w.heap.size (fun _ => True) (.slice Ao4 t118.length co4) t118) ∧ Aside0 (Below w.heap.size w w'))
 case atStart => exact ⟨(0), (by first | rfl | (simp; done) | (simp [*]; done)), H', ⟨Nat.le_refl _⟩, ⟨by (with_reducible repeat (first | apply Kd.R_alloc | apply Kd.R_drewN | apply Kd.R_drew)); first | exact HO120.out | exact Kd.R_mono HO120.out (fun k_ hk_ h_ => hk_ (h_.trans (ownLen _ _ _ _ _)))⟩, ⟨by repeat (first | (with_reducible first | exact HB.out | apply below_alloc | apply pw_below_drewN | apply below_drew1) | exact HB.out)⟩⟩
 case round =>
  clear H'
  try clear c1
  try clear p2
  try clear c3
  obtain ⟨x7_1, rfl, HA, HK1, HO_5, HB⟩ := hrel
  cases gk with
  | zero => exact absurd HA.out (by simp [lex_word.l0])
  | succ k1 =>
   have H := HA.out
   clear HA
   simp only [lex_word.l0] at H
   by_cases c5 : x7_1 < (t118.length : Int)
   ·
    rw [if_pos c5] at H
    have c5b0 : decide (x7_1 < (t118.length : Int)) = true := decide_eq_true c5
    clear c5
    by_cases c6 : 0 ≤ x7_1
    ·
     rw [if_pos c6] at H
     have c6b0 : decide (0 ≤ x7_1) = true := decide_eq_true c6
     clear c6
     by_cases c7 : x7_1 < (t118.length : Int)
     ·
      rw [if_pos c7] at H
      have c7b0 : decide (x7_1 < (t118.length : Int)) = true := decide_eq_true c7
      clear c7
      by_cases c8 : (rdOf ByteArray.empty t118 x7_1).toList = a0.toList
      ·
       rw [if_pos c8] at H
       have c8b0 : ((rdOf ByteArray.empty t118 x7_1).toList == a0.toList) = true := beq_iff_eq.mpr c8
       have c8b1 : ((rdOf ByteArray.empty t118 x7_1).toList != a0.toList) = false := bne_eq_false_iff_eq.mpr c8
       clear c8
       obtain rfl := Option.some.inj H
       have p121 : 0 ≤ (x7_1 : Int) := of_decide_eq_true (by first | (with_reducible assumption) | assumption)
       have q121 : x7_1 < (t118.length : Int) := of_decide_eq_true (by first | (with_reducible assumption) | assumption)
       obtain ⟨ad121, e121, hx121_0⟩ := Kd.at_string (Kd.R_reads' HO_5.out).2.2 x7_1 p121 q121
       cases e121
       replace p121 := eq_true p121
       replace q121 := eq_true q121
       go_wp2
       go_ret
       exact ⟨by first | rfl | (simp [errW_none, errW_some] <;> rfl) | (simp [*, errW_none, errW_some] <;> rfl), by repeat (first | (with_reducible first | exact HB.out | apply below_alloc | apply pw_below_drewN | apply below_drew1) | exact HB.out)⟩
      ·
       rw [if_neg c8] at H
       have c8b0 : ((rdOf ByteArray.empty t118 x7_1).toList == a0.toList) = false := beq_eq_false_iff_ne.mpr c8
       have c8b1 : ((rdOf ByteArray.empty t118 x7_1).toList != a0.toList) = true := bne_iff_ne.mpr c8
       have H' := Aside0.mk H
       clear H
       have p121 : 0 ≤ (x7_1 : Int) := of_decide_eq_true (by first | (with_reducible assumption) | assumption)
       have q121 : x7_1 < (t118.length : Int) := of_decide_eq_true (by first | (with_reducible assumption) | assumption)
       obtain ⟨ad121, e121, hx121_0⟩ := Kd.at_string (Kd.R_reads' HO_5.out).2.2 x7_1 p121 q121
       cases e121
       replace p121 := eq_true p121
       replace q121 := eq_true q121
       go_wp2
       go_roundg k1
       case measure => have := HK1.out; omega
       case rel => exact ⟨(wrap64 (x7_1 + 1)), (by first | rfl | (simp; done) | (simp [*]; done)), H', ⟨by have := HK1.out; omega⟩, ⟨by (with_reducible repeat (first | apply Kd.R_alloc | apply Kd.R_drewN | apply Kd.R_drew)); first | exact HO_5.out | exact Kd.R_mono HO_5.out (fun k_ hk_ h_ => hk_ (h_.trans (ownLen _ _ _ _ _)))⟩, ⟨by repeat (first | (with_reducible first | exact HB.out | apply below_alloc | apply pw_below_drewN | apply below_drew1) | exact HB.out)⟩⟩
     ·
      rw [if_neg c7] at H
      exact absurd H (by simp)
    ·
     rw [if_neg c6] at H
     exact absurd H (by simp)
   ·
    rw [if_neg c5] at H
    have c5b0 : decide (x7_1 < (t118.length : Int)) = false := decide_eq_false c5
    clear c5
    obtain rfl := Option.some.inj H
    go_wp2
    go_ret
    exact ⟨by first | rfl | (simp [errW_none, errW_some] <;> rfl) | (simp [*, errW_none, errW_some] <;> rfl), by repeat (first | (with_reducible first | exact HB.out | apply below_alloc | apply pw_below_drewN | apply below_drew1) | exact HB.out)⟩

/-! ### strconv_Itoa_40 -/
def strconv_Itoa_40.f (a0 : Int) : Option (ByteArray) := if -9223372036854775808 ≤ a0 ∧ a0 ≤ 9223372036854775807 then some ⟨(Lib.itoa a0).toArray⟩ else none
theorem strconv_Itoa_40.calls (a0 : Int) (r : ByteArray) (w : World) [GW w] (h : strconv_Itoa_40.f a0 = some r) :
    Calls Tryd.prog 40 #[.int .i64 a0] w fun e w' => e = .returned (.string r) ∧ Below w.heap.size w w' := by
  unfold strconv_Itoa_40.f at h
  split at h
  · rename_i hc
    obtain rfl := Option.some.inj h
    refine (Tryd.strconv_Itoa a0 hc.1 hc.2 w GW.p10).mono ?_
    rintro e w' ⟨rfl, n, os, rfl⟩
    exact ⟨rfl, Lib.below_grow _ w (Nat.le_refl _) n os⟩
  · cases h
/-! ### strconv_ParseInt_53 -/
def strconv_ParseInt_53.f (a0 : ByteArray) (a1 : Int) (a2 : Int) : Option (Int × Option Int) := if a1 = 10 ∧ a2 = 64 ∧ a0.size ≤ 281474976710656 then (match Lib.parseIntB 64 a0.data.toList with | .ok v => some (v, none) | .range => some (Lib.intSat 64 a0.data.toList, some 0) | _ => none) else none
theorem strconv_ParseInt_53.calls (a0 : ByteArray) (a1 : Int) (a2 : Int) (r1 : Int) (r2 : Option Int) (w : World) [GW w] (h : strconv_ParseInt_53.f a0 a1 a2 = some (r1, r2)) :
    Calls Tryd.prog 53 #[.string a0, .int .i64 a1, .int .i64 a2] w fun e w' => (∃ v, e = .returned (.tuple #[.int .i64 r1, v]) ∧ (r2 = none → v = .nilIface) ∧ (r2 ≠ none → ∃ t p, v = .iface t p)) ∧ Below w.heap.size w w' := by
  unfold strconv_ParseInt_53.f at h
  split at h
  · rename_i hc
    obtain ⟨rfl, rfl, hs⟩ := hc
    split at h
    · rename_i v hv
      simp only [Option.some.injEq, Prod.mk.injEq] at h
      obtain ⟨rfl, rfl⟩ := h
      refine (Tryd.strconv_ParseInt_10_at64_ok a0 (by omega) _ hv w).mono ?_
      rintro e w' ⟨rfl, hw⟩
      refine ⟨⟨_, rfl, fun _ => rfl, fun h => absurd rfl h⟩, ?_⟩
      rcases hw with rfl | ⟨t, rfl⟩
      · exact Below.refl _ _
      · exact bytes_below (Below.refl _ w) (Nat.le_refl _) 5 t
    · rename_i hv
      simp only [Option.some.injEq, Prod.mk.injEq] at h
      obtain ⟨rfl, rfl⟩ := h
      obtain ⟨ev, he, he2⟩ := (GW.er (w := w))
      refine (Tryd.strconv_ParseInt_10_at64_range a0 hs hv ev w he he2).mono ?_
      rintro e w' ⟨n, rfl, _, _, hb⟩
      exact ⟨⟨_, rfl, nofun, fun _ => ⟨_, _, rfl⟩⟩, hb⟩
    · cases h
  · cases h
/-! ### lex_number: function 31 -/
mutual
def lex_number.j1 : Nat → ByteArray → Bool → Int → Option (Int × ByteArray × Int × Int × Int × Int)
 | 0, _, _, _ => none
 | k + 1, x0, x1, x7 => if x7 > 1 then (if 0 < (x0.size : Int) then (if (bt x0 0) = 48 then (lex_number.j2 k x0 x7 true) else (if 0 ≤ x7 then (if x7 ≤ (x0.size : Int) then ((lex_name.f k (x0.extract (x7 : Int).toNat x0.size) x1 true).bind fun t163 => (lex_number.j2 k x0 x7 (decide (t163 > 0)))) else (none)) else (none))) else (none)) else (if 0 ≤ x7 then (if x7 ≤ (x0.size : Int) then ((lex_name.f k (x0.extract (x7 : Int).toNat x0.size) x1 true).bind fun t164 => (lex_number.j2 k x0 x7 (decide (t164 > 0)))) else (none)) else (none))
def lex_number.j2 : Nat → ByteArray → Int → Bool → Option (Int × ByteArray × Int × Int × Int × Int)
 | 0, _, _, _ => none
 | k + 1, x0, x7, x42 => if x42 = true then (some (0, (⟨#[]⟩ : ByteArray), 0, 0, 0, 40)) else (if 0 ≤ x7 then (if x7 ≤ (x0.size : Int) then ((strconv_ParseInt_53.f (x0.extract 0 (x7 : Int).toNat) 10 64).bind fun bt165 => (if bt165.2.isNone = true then (if bt165.1 > 9007199254740991 then (some (0, (⟨#[]⟩ : ByteArray), 0, 0, 0, 41)) else (some (3, (⟨#[]⟩ : ByteArray), bt165.1, 0, x7, 0))) else (some (0, (⟨#[]⟩ : ByteArray), 0, 0, 0, 41)))) else (none)) else (none))
def lex_number.l0 : Nat → ByteArray → Bool → Int → Option (Int × ByteArray × Int × Int × Int × Int)
 | 0, _, _, _ => none
 | k + 1, x0, x1, x7 => if x7 < (x0.size : Int) then (if 0 ≤ x7 then (if (bt x0 x7) ≥ 48 then (if (bt x0 x7) ≤ 57 then (lex_number.l0 k x0 x1 (wrap64 (x7 + 1))) else (lex_number.j1 k x0 x1 x7)) else (lex_number.j1 k x0 x1 x7)) else (none)) else (lex_number.j1 k x0 x1 x7)
end
def lex_number.f (k : Nat) (a0 : ByteArray) (a1 : Bool) : Option (Int × ByteArray × Int × Int × Int × Int) := lex_number.l0 k a0 a1 0
theorem lex_number.mono_l : ∀ k, (∀ y0 y1 y2, LeO (lex_number.j1 k y0 y1 y2) (lex_number.j1 (k + 1) y0 y1 y2)) ∧ (∀ y0 y1 y2, LeO (lex_number.j2 k y0 y1 y2) (lex_number.j2 (k + 1) y0 y1 y2)) ∧ (∀ y0 y1 y2, LeO (lex_number.l0 k y0 y1 y2) (lex_number.l0 (k + 1) y0 y1 y2))
 | 0 => ⟨fun _ _ _ r h => by simp [lex_number.j1] at h, fun _ _ _ r h => by simp [lex_number.j2] at h, fun _ _ _ r h => by simp [lex_number.l0] at h⟩
 | k + 1 => by
  obtain ⟨ih0, ih1, ih2⟩ := lex_number.mono_l k
  refine ⟨?_, ?_, ?_⟩
  ·
   intro y0 y1 y2
   unfold lex_number.j1
   repeat' first
   | (with_reducible exact ih0 _ _ _)
   | (with_reducible exact ih1 _ _ _)
   | (with_reducible exact ih2 _ _ _)
   | (with_reducible exact lex_name.mono _ _ _ _)
   | (with_reducible exact LeO.refl _)
   | (with_reducible exact LeO.none _)
   | (with_reducible refine LeO.ite ?_ ?_)
   | (with_reducible refine LeO.bind ?_ (fun _ => ?_))
   | exact ih0 _ _ _
   | exact ih1 _ _ _
   | exact ih2 _ _ _
   | exact lex_name.mono _ _ _ _
   | exact LeO.none _
   | refine LeO.ite ?_ ?_
   | refine LeO.bind ?_ (fun _ => ?_)
  ·
   intro y0 y1 y2
   unfold lex_number.j2
   repeat' first
   | (with_reducible exact ih0 _ _ _)
   | (with_reducible exact ih1 _ _ _)
   | (with_reducible exact ih2 _ _ _)
   | (with_reducible exact lex_name.mono _ _ _ _)
   | (with_reducible exact LeO.refl _)
   | (with_reducible exact LeO.none _)
   | (with_reducible refine LeO.ite ?_ ?_)
   | (with_reducible refine LeO.bind ?_ (fun _ => ?_))
   | exact ih0 _ _ _
   | exact ih1 _ _ _
   | exact ih2 _ _ _
   | exact lex_name.mono _ _ _ _
   | exact LeO.none _
   | refine LeO.ite ?_ ?_
   | refine LeO.bind ?_ (fun _ => ?_)
  ·
   intro y0 y1 y2
   unfold lex_number.l0
   repeat' first
   | (with_reducible exact ih0 _ _ _)
   | (with_reducible exact ih1 _ _ _)
   | (with_reducible exact ih2 _ _ _)
   | (with_reducible exact lex_name.mono _ _ _ _)
   | (with_reducible exact LeO.refl _)
   | (with_reducible exact LeO.none _)
   | (with_reducible refine LeO.ite ?_ ?_)
   | (with_reducible refine LeO.bind ?_ (fun _ => ?_))
   | exact ih0 _ _ _
   | exact ih1 _ _ _
   | exact ih2 _ _ _
   | exact lex_name.mono _ _ _ _
   | exact LeO.none _
   | refine LeO.ite ?_ ?_
   | refine LeO.bind ?_ (fun _ => ?_)
theorem lex_number.mono : ∀ a0 a1 k, LeO (lex_number.f k a0 a1) (lex_number.f (k + 1) a0 a1) := by
 intro a0 a1 k
 obtain ⟨ih0, ih1, ih2⟩ := lex_number.mono_l k
 unfold lex_number.f
 repeat' first
   | (with_reducible exact ih0 _ _ _)
   | (with_reducible exact ih1 _ _ _)
   | (with_reducible exact ih2 _ _ _)
   | (with_reducible exact lex_name.mono _ _ _ _)
   | (with_reducible exact LeO.refl _)
   | (with_reducible exact LeO.none _)
   | (with_reducible refine LeO.ite ?_ ?_)
   | (with_reducible refine LeO.bind ?_ (fun _ => ?_))
   | exact ih0 _ _ _
   | exact ih1 _ _ _
   | exact ih2 _ _ _
   | exact lex_name.mono _ _ _ _
   | exact LeO.none _
   | refine LeO.ite ?_ ?_
   | refine LeO.bind ?_ (fun _ => ?_)
set_option maxHeartbeats 8000000 in
set_option maxRecDepth 100000 in
theorem lex_number.calls (k : Nat) (a0 : ByteArray) (a1 : Bool) (r1 : Int) (r2 : ByteArray) (r3 : Int) (r4 : Int) (r5 : Int) (r6 : Int) (w : World) [GW w] (h : lex_number.f k a0 a1 = some (r1, r2, r3, r4, r5, r6)) :
  Calls Tryd.prog 31 #[.string a0, .bool a1] w fun e w' => e = .returned (.tuple #[.agg #[.int .i64 r1, .string r2, .int .i64 r3, .int .i64 r4], .int .i64 r5, .int .i64 r6]) ∧ Below w.heap.size w w' := by
 have hu36 := Tryd.underlying36
 have hu71 := Tryd.underlying71
 have hu105 := Tryd.underlying105
 have HB := Aside0.mk (Below.refl w.heap.size w)
 have H : (lex_number.l0 k a0 a1 0) = some (r1, r2, r3, r4, r5, r6) := h
 clear h
 have HC3 := Aside0.mk H
 clear H
 go_enter Tryd.func31, Tryd.ntmps31
 go_upto_block 0 with (first | ((with_reducible refine gate_dst (N := 4) rfl ?_); refine box_event ?hg (N := 4) ?hd (cs := #[.int .i64 0, .string (⟨#[]⟩ : ByteArray), .int .i64 0, .int .i64 0]) (t := 36) ?hr ?_; (case hd => rfl); (case hg => rfl); (case hr => first | (go_simp; done) | (go_simp; rfl)); intro gb162 hg w4 hbox hb; have n0_ := Aside0.mk (below_step (by repeat (first | (with_reducible first | exact HB.out | apply below_alloc | apply pw_below_drewN | apply below_drew1) | exact HB.out)) hb); have n1_ := Aside0.mk (hbox); have n2_ := Aside0.mk ((by rw [hg]; exact (below_size (by repeat (first | (with_reducible first | exact HB.out | apply below_alloc | apply pw_below_drewN | apply below_drew1) | exact HB.out))) : w.heap.size ≤ gb162)); have n3_ := Aside0.mk ((by rw [hg]; exact (below_size (by repeat (first | (with_reducible first | exact HB.out | apply below_alloc | apply pw_below_drewN | apply below_drew1) | exact HB.out))) : w.heap.size ≤ gb162)); clear HB; have HB := n0_; haveI := GW.of HB.out; have BK162 := n1_; have GW162 := n2_; have GE162 := n3_; clear n0_ n1_ n2_ n3_; clear hb hbox hg))
 (try simp only [Act.put, List.setIfInBounds_toArray, List.set_cons_zero, List.set_cons_succ])
 go_cut [7] (fun v7 wc => ∃ (kq : Nat) (x7_2 : Int), v7 = .int .i64 x7_2 ∧ Aside0 (lex_number.j1 kq a0 a1 x7_2 = some (r1, r2, r3, r4, r5, r6)) ∧ Aside0 (kq ≤ k) ∧ Aside0 (wc.heap[gb162]? = some (.cells #[.int .i64 0, .string (⟨#[]⟩ : ByteArray), .int .i64 0, .int .i64 0] 36 (0, 0))) ∧ Aside0 (Below w.heap.size w wc))
 case first =>
  have H := HC3.out
  clear HC3
  have H' := Aside0.mk H
  clear H
  go_wp2
  go_loopg [7] k (fun kq v7 w' => ∃ (x7_1 : Int), v7 = .int .i64 x7_1 ∧ Aside0 (lex_number.l0 kq a0 a1 x7_1 = some (r1, r2, r3, r4, r5, r6)) ∧ Aside0 (kq ≤ k) ∧ Aside0 (w'.heap[gb162]? = some (.cells #[.int .i64 0, .string (⟨#[]⟩ : ByteArray), .int .i64 0, .int .i64 0] 36 (0, 0))) ∧ Aside0 (Below w.heap.size w w'))
  case atStart => exact ⟨(0), (by first | rfl | (simp; done) | (simp [*]; done)), H', ⟨Nat.le_refl _⟩, ⟨by (with_reducible repeat (first | refine blk_drewN ?_ _ | refine blk_drew ?_ | refine blk_alloc ?_ _)); exact BK162.out⟩, ⟨by repeat (first | (with_reducible first | exact HB.out | apply below_alloc | apply pw_below_drewN | apply below_drew1 | refine below_set ?_ GE162.out) | exact HB.out)⟩⟩
  case round =>
   clear H'
   try clear p2
   try clear c3
   obtain ⟨x7_1, rfl, HA, HK1, BK162, HB⟩ := hrel; haveI := GW.of HB.out
   cases gk with
   | zero => exact absurd HA.out (by simp [lex_number.l0])
   | succ k1 =>
    have H := HA.out
    clear HA
    simp only [lex_number.l0] at H
    by_cases c5 : x7_1 < (a0.size : Int)
    ·
     rw [if_pos c5] at H
     have c5b0 : decide (x7_1 < (a0.size : Int)) = true := decide_eq_true c5
     clear c5
     (first | rw [c5b0] | (simp only [i64_w, i32_w]; rw [c5b0]) | skip)
     by_cases c6 : 0 ≤ x7_1
     ·
      rw [if_pos c6] at H
      have c6b0 : decide (0 ≤ x7_1) = true := decide_eq_true c6
      clear c6
      by_cases c8 : (bt a0 x7_1) ≥ 48
      ·
       rw [if_pos c8] at H
       have c8b0 : decide (48 ≤ (bt a0 x7_1)) = true := decide_eq_true c8
       clear c8
       by_cases c10 : (bt a0 x7_1) ≤ 57
       ·
        rw [if_pos c10] at H
        have c10b0 : decide ((bt a0 x7_1) ≤ 57) = true := decide_eq_true c10
        clear c10
        have H' := Aside0.mk H
        clear H
        have p7 : 0 ≤ (x7_1 : Int) := of_decide_eq_true (by first | (with_reducible assumption) | assumption)
        have q7 : x7_1 < (a0.size : Int) := of_decide_eq_true (by first | (with_reducible assumption) | assumption)
        have hx7 := bt_at a0 x7_1
        replace p7 := eq_true p7
        replace q7 := eq_true q7
        have p9 : 0 ≤ (x7_1 : Int) := of_decide_eq_true (by first | (with_reducible assumption) | assumption)
        have q9 : x7_1 < (a0.size : Int) := of_decide_eq_true (by first | (with_reducible assumption) | assumption)
        have hx9 := bt_at a0 x7_1
        replace p9 := eq_true p9
        replace q9 := eq_true q9
        go_wp2
        go_roundg k1
        case measure => have := HK1.out; omega
        case rel => exact ⟨(wrap64 (x7_1 + 1)), (by first | rfl | (simp; done) | (simp [*]; done)), H', ⟨by have := HK1.out; omega⟩, ⟨by (with_reducible repeat (first | refine blk_drewN ?_ _ | refine blk_drew ?_ | refine blk_alloc ?_ _)); exact BK162.out⟩, ⟨by repeat (first | (with_reducible first | exact HB.out | apply below_alloc | apply pw_below_drewN | apply below_drew1 | refine below_set ?_ GE162.out) | exact HB.out)⟩⟩
       ·
        rw [if_neg c10] at H
        have c10b0 : decide ((bt a0 x7_1) ≤ 57) = false := decide_eq_false c10
        clear c10
        have H' := Aside0.mk H
        clear H
        have p7 : 0 ≤ (x7_1 : Int) := of_decide_eq_true (by first | (with_reducible assumption) | assumption)
        have q7 : x7_1 < (a0.size : Int) := of_decide_eq_true (by first | (with_reducible assumption) | assumption)
        have hx7 := bt_at a0 x7_1
        replace p7 := eq_true p7
        replace q7 := eq_true q7
        have p9 : 0 ≤ (x7_1 : Int) := of_decide_eq_true (by first | (with_reducible assumption) | assumption)
        have q9 : x7_1 < (a0.size : Int) := of_decide_eq_true (by first | (with_reducible assumption) | assumption)
        have hx9 := bt_at a0 x7_1
        replace p9 := eq_true p9
        replace q9 := eq_true q9
        go_wp2
        go_meet
        case rel => exact ⟨_, (x7_1), (by first | rfl | (simp; done) | (simp [*]; done)), H', ⟨by have := HK1.out; first | omega | exact Nat.le_refl _⟩, ⟨by (with_reducible repeat (first | refine blk_drewN ?_ _ | refine blk_drew ?_ | refine blk_alloc ?_ _)); exact BK162.out⟩, ⟨by repeat (first | (with_reducible first | exact HB.out | apply below_alloc | apply pw_below_drewN | apply below_drew1 | refine below_set ?_ GE162.out) | exact HB.out)⟩⟩
      ·
       rw [if_neg c8] at H
       have c8b0 : decide (48 ≤ (bt a0 x7_1)) = false := decide_eq_false c8
       clear c8
       have H' := Aside0.mk H
       clear H
       have p7 : 0 ≤ (x7_1 : Int) := of_decide_eq_true (by first | (with_reducible assumption) | assumption)
       have q7 : x7_1 < (a0.size : Int) := of_decide_eq_true (by first | (with_reducible assumption) | assumption)
       have hx7 := bt_at a0 x7_1
       replace p7 := eq_true p7
       replace q7 := eq_true q7
       go_wp2
       go_meet
       case rel => exact ⟨_, (x7_1), (by first | rfl | (simp; done) | (simp [*]; done)), H', ⟨by have := HK1.out; first | omega | exact Nat.le_refl _⟩, ⟨by (with_reducible repeat (first | refine blk_drewN ?_ _ | refine blk_drew ?_ | refine blk_alloc ?_ _)); exact BK162.out⟩, ⟨by repeat (first | (with_reducible first | exact HB.out | apply below_alloc | apply pw_below_drewN | apply below_drew1 | refine below_set ?_ GE162.out) | exact HB.out)⟩⟩
     ·
      rw [if_neg c6] at H
      exact absurd H (by simp)
    ·
     rw [if_neg c5] at H
     have c5b0 : decide (x7_1 < (a0.size : Int)) = false := decide_eq_false c5
     clear c5
     (first | rw [c5b0] | (simp only [i64_w, i32_w]; rw [c5b0]) | skip)
     have H' := Aside0.mk H
     clear H
     go_wp2
     go_meet
     case rel => exact ⟨_, (x7_1), (by first | rfl | (simp; done) | (simp [*]; done)), H', ⟨by have := HK1.out; first | omega | exact Nat.le_refl _⟩, ⟨by (with_reducible repeat (first | refine blk_drewN ?_ _ | refine blk_drew ?_ | refine blk_alloc ?_ _)); exact BK162.out⟩, ⟨by repeat (first | (with_reducible first | exact HB.out | apply below_alloc | apply pw_below_drewN | apply below_drew1 | refine below_set ?_ GE162.out) | exact HB.out)⟩⟩
 case rest =>
  clear HC3
  try clear c1
  try clear p2
  try clear c3
  try clear c5
  try clear c5b0
  try clear c6
  try clear c6b0
  try clear p6
  try clear p7
  try clear q7
  try clear hx7
  try clear c8
  try clear c8b0
  try clear p9
  try clear q9
  try clear hx9
  try clear c10
  try clear c10b0
  try clear p2
  try clear p7
  try clear p9
  try clear q7
  try clear q9
  obtain ⟨kq, x7_2, rfl, HA, HJ2, BK162, HB⟩ := hcut; haveI := GW.of HB.out
  cases kq with
  | zero => exact absurd HA.out (by simp [lex_number.j1])
  | succ kj2 =>
   have H := HA.out
   clear HA
   simp only [lex_number.j1] at H
   have HC11 := Aside0.mk H
   clear H
   go_upto_region 4 with (fail)
   go_cut [42] (fun v42 wc => ∃ (kq : Nat) (x42_10 : Bool), v42 = .bool x42_10 ∧ Aside0 (lex_number.j2 kq a0 x7_2 x42_10 = some (r1, r2, r3, r4, r5, r6)) ∧ Aside0 (kq ≤ kj2) ∧ Aside0 (wc.heap[gb162]? = some (.cells #[.int .i64 0, .string (⟨#[]⟩ : ByteArray), .int .i64 0, .int .i64 0] 36 (0, 0))) ∧ Aside0 (Below w.heap.size w wc))
   case first =>
    have H := HC11.out
    clear HC11
    by_cases c12 : x7_2 > 1
    ·
     rw [if_pos c12] at H
     have c12b0 : decide (1 < x7_2) = true := decide_eq_true c12
     clear c12
     (first | rw [c12b0] | (simp only [i64_w, i32_w]; rw [c12b0]) | skip)
     by_cases c13 : 0 < (a0.size : Int)
     ·
      rw [if_pos c13] at H
      have c13b0 : decide (0 < (a0.size : Int)) = true := decide_eq_true c13
      have c13b1 : decide (0 < a0.size) = true := decide_eq_true (by omega)
      clear c13
      by_cases c15 : (bt a0 0) = 48
      ·
       rw [if_pos c15] at H
       have c15b0 : ((bt a0 0) == 48) = true := beq_iff_eq.mpr c15
       have c15b1 : ((bt a0 0) != 48) = false := bne_eq_false_iff_eq.mpr c15
       clear c15
       have H' := Aside0.mk H
       clear H
       have p14 : 0 ≤ (0 : Int) := (by omega)
       have q14 : 0 < a0.size := (by have : (0 : Int) < (a0.size : Int) := of_decide_eq_true (by first | (with_reducible assumption) | assumption); omega)
       have hx14 : ∀ h : 0 < a0.size, ((a0[0]'h).toNat : Int) = bt a0 0 := bt_at a0 0
       clear p14
       have qi14 : (0 < (a0.size : Int)) = True := eq_true (of_decide_eq_true (by first | (with_reducible assumption) | assumption))
       replace q14 := eq_true q14
       go_wp2
       go_meet
       case rel => exact ⟨_, (true), (by first | rfl | (simp; done) | (simp [*]; done)), H', ⟨by have := HJ2.out; first | omega | exact Nat.le_refl _⟩, ⟨by (with_reducible repeat (first | refine blk_drewN ?_ _ | refine blk_drew ?_ | refine blk_alloc ?_ _)); exact BK162.out⟩, ⟨by repeat (first | (with_reducible first | exact HB.out | apply below_alloc | apply pw_below_drewN | apply below_drew1 | refine below_set ?_ GE162.out) | exact HB.out)⟩⟩
      ·
       rw [if_neg c15] at H
       have c15b0 : ((bt a0 0) == 48) = false := beq_eq_false_iff_ne.mpr c15
       have c15b1 : ((bt a0 0) != 48) = true := bne_iff_ne.mpr c15
       by_cases c16 : 0 ≤ x7_2
       ·
        rw [if_pos c16] at H
        have c16b0 := eq_true c16
        have c16b1 : decide (0 ≤ x7_2) = true := decide_eq_true c16
        clear c16
        by_cases c17 : x7_2 ≤ (a0.size : Int)
        ·
         rw [if_pos c17] at H
         have c17b0 := eq_true c17
         have c17b1 : decide (x7_2 ≤ (a0.size : Int)) = true := decide_eq_true c17
         clear c17
         replace H := Option.bind_eq_some_iff.mp H
         obtain ⟨t163, A180, H⟩ := H
         replace H : (lex_number.j2 kj2 a0 x7_2 (decide (t163 > 0))) = some (r1, r2, r3, r4, r5, r6) := H
         have A18 := Aside0.mk A180
         clear A180
         have H' := Aside0.mk H
         clear H
         have p14 : 0 ≤ (0 : Int) := (by omega)
         have q14 : 0 < a0.size := (by have : (0 : Int) < (a0.size : Int) := of_decide_eq_true (by first | (with_reducible assumption) | assumption); omega)
         have hx14 : ∀ h : 0 < a0.size, ((a0[0]'h).toNat : Int) = bt a0 0 := bt_at a0 0
         clear p14
         have qi14 : (0 < (a0.size : Int)) = True := eq_true (of_decide_eq_true (by first | (with_reducible assumption) | assumption))
         replace q14 := eq_true q14
         go_wp2_with (first | (go_at_call 29; (with_reducible refine (lex_name.calls kj2 (a0.extract (x7_2 : Int).toNat a0.size) a1 true t163 _ A18.out).mono ?_); rintro e w19 ⟨rfl, hb⟩; have n0_ := Aside0.mk (blk_below (g := gb162) (o := .cells #[.int .i64 0, .string (⟨#[]⟩ : ByteArray), .int .i64 0, .int .i64 0] 36 (0, 0)) (by (with_reducible repeat (first | refine blk_drewN ?_ _ | refine blk_drew ?_ | refine blk_alloc ?_ _)); exact BK162.out) hb); have n1_ := Aside0.mk (below_step (by repeat (first | (with_reducible first | exact HB.out | apply below_alloc | apply pw_below_drewN | apply below_drew1 | refine below_set ?_ GE162.out) | exact HB.out)) hb); clear BK162; clear HB; have BK162 := n0_; have HB := n1_; haveI := GW.of HB.out; clear n0_ n1_; (try clear hb); (try clear hb2); (try clear hk); (try clear hi)))
         go_meet
         case rel => exact ⟨_, (decide (t163 > 0)), (by first | rfl | (simp; done) | (simp [*]; done)), H', ⟨by have := HJ2.out; first | omega | exact Nat.le_refl _⟩, ⟨by (with_reducible repeat (first | refine blk_drewN ?_ _ | refine blk_drew ?_ | refine blk_alloc ?_ _)); exact BK162.out⟩, ⟨by repeat (first | (with_reducible first | exact HB.out | apply below_alloc | apply pw_below_drewN | apply below_drew1 | refine below_set ?_ GE162.out) | exact HB.out)⟩⟩
        ·
         rw [if_neg c17] at H
         exact absurd H (by simp)
       ·
        rw [if_neg c16] at H
        exact absurd H (by simp)
     ·
      rw [if_neg c13] at H
      exact absurd H (by simp)
    ·
     rw [if_neg c12] at H
     have c12b0 : decide (1 < x7_2) = false := decide_eq_false c12
     clear c12
     (first | rw [c12b0] | (simp only [i64_w, i32_w]; rw [c12b0]) | skip)
     by_cases c20 : 0 ≤ x7_2
     ·
      rw [if_pos c20] at H
      have c20b0 := eq_true c20
      have c20b1 : decide (0 ≤ x7_2) = true := decide_eq_true c20
      clear c20
      by_cases c21 : x7_2 ≤ (a0.size : Int)
      ·
       rw [if_pos c21] at H
       have c21b0 := eq_true c21
       have c21b1 : decide (x7_2 ≤ (a0.size : Int)) = true := decide_eq_true c21
       clear c21
       replace H := Option.bind_eq_some_iff.mp H
       obtain ⟨t164, A220, H⟩ := H
       replace H : (lex_number.j2 kj2 a0 x7_2 (decide (t164 > 0))) = some (r1, r2, r3, r4, r5, r6) := H
       have A22 := Aside0.mk A220
       clear A220
       have H' := Aside0.mk H
       clear H
       go_wp2_with (first | (go_at_call 29; (with_reducible refine (lex_name.calls kj2 (a0.extract (x7_2 : Int).toNat a0.size) a1 true t164 _ A22.out).mono ?_); rintro e w23 ⟨rfl, hb⟩; have n0_ := Aside0.mk (blk_below (g := gb162) (o := .cells #[.int .i64 0, .string (⟨#[]⟩ : ByteArray), .int .i64 0, .int .i64 0] 36 (0, 0)) (by (with_reducible repeat (first | refine blk_drewN ?_ _ | refine blk_drew ?_ | refine blk_alloc ?_ _)); exact BK162.out) hb); have n1_ := Aside0.mk (below_step (by repeat (first | (with_reducible first | exact HB.out | apply below_alloc | apply pw_below_drewN | apply below_drew1 | refine below_set ?_ GE162.out) | exact HB.out)) hb); clear BK162; clear HB; have BK162 := n0_; have HB := n1_; haveI := GW.of HB.out; clear n0_ n1_; (try clear hb); (try clear hb2); (try clear hk); (try clear hi)))
       go_meet
       case rel => exact ⟨_, (decide (t164 > 0)), (by first | rfl | (simp; done) | (simp [*]; done)), H', ⟨by have := HJ2.out; first | omega | exact Nat.le_refl _⟩, ⟨by (with_reducible repeat (first | refine blk_drewN ?_ _ | refine blk_drew ?_ | refine blk_alloc ?_ _)); exact BK162.out⟩, ⟨by repeat (first | (with_reducible first | exact HB.out | apply below_alloc | apply pw_below_drewN | apply below_drew1 | refine below_set ?_ GE162.out) | exact HB.out)⟩⟩
      ·
       rw [if_neg c21] at H
       exact absurd H (by simp)
     ·
      rw [if_neg c20] at H
      exact absurd H (by simp)
   case rest =>
    clear HC11
    try clear c1
    try clear p1
    try clear q1
    try clear hx1
    try clear qi1
    try clear c2
    try clear p2
    try clear c3
    try clear c5
    try clear c5b0
    try clear c6
    try clear c6b0
    try clear p6
    try clear p7
    try clear q7
    try clear hx7
    try clear c8
    try clear c8b0
    try clear p9
    try clear q9
    try clear hx9
    try clear c10
    try clear c10b0
    try clear c12
    try clear c12b0
    try clear c13
    try clear c13b0
    try clear c13b1
    try clear p14
    try clear q14
    try clear hx14
    try clear qi14
    try clear c15
    try clear c15b0
    try clear c15b1
    try clear c16
    try clear c16b0
    try clear c16b1
    try clear c17
    try clear c17b0
    try clear c17b1
    try clear c20
    try clear c20b0
    try clear c20b1
    try clear c21
    try clear c21b0
    try clear c21b1
    try clear p14
    try clear p2
    try clear p6
    try clear p7
    try clear p9
    try clear q14
    try clear q7
    try clear q9
    obtain ⟨kq, x42_10, rfl, HA, HJ10, BK162, HB⟩ := hcut; haveI := GW.of HB.out
    cases kq with
    | zero => exact absurd HA.out (by simp [lex_number.j2])
    | succ kj10 =>
     have H := HA.out
     clear HA
     simp only [lex_number.j2] at H
     by_cases c24 : x42_10 = true
     ·
      subst c24
      have H1 : (some (0, (⟨#[]⟩ : ByteArray), 0, 0, 0, 40)) = some (r1, r2, r3, r4, r5, r6) := by rw [if_pos rfl] at H; exact H
      clear H
      have H := H1
      clear H1
      simp only [Option.some.injEq, Prod.mk.injEq] at H
      obtain ⟨rfl, rfl, rfl, rfl, rfl, rfl⟩ := H
      have hcz25_0 : wc.cell? ⟨gb162, 0, none⟩ = some (.int .i64 0) := (blk_cell BK162.out 0).trans rfl
      have hcz25_1 : wc.cell? ⟨gb162, 1, none⟩ = some (.string (⟨#[]⟩ : ByteArray)) := (blk_cell BK162.out 1).trans rfl
      have hcz25_2 : wc.cell? ⟨gb162, 2, none⟩ = some (.int .i64 0) := (blk_cell BK162.out 2).trans rfl
      have hcz25_3 : wc.cell? ⟨gb162, 3, none⟩ = some (.int .i64 0) := (blk_cell BK162.out 3).trans rfl
      have hfz25_0 := blk_frozen BK162.out 0
      have hfz25_1 := blk_frozen BK162.out 1
      have hfz25_2 := blk_frozen BK162.out 2
      have hfz25_3 := blk_frozen BK162.out 3
      go_wp2
      refine bodyPost_ret (results_ctt rfl _ _ gb162 36 #[.int .i64 0, .string (⟨#[]⟩ : ByteArray), .int .i64 0, .int .i64 0] (0, 0) _ rfl (by (with_reducible repeat (first | refine blk_drewN ?_ _ | refine blk_drew ?_ | refine blk_alloc ?_ _)); refine blk_put (cs := #[.int .i64 0, .string (⟨#[]⟩ : ByteArray), .int .i64 0, .int .i64 0]) ?_ 3 _ rfl; (with_reducible repeat (first | refine blk_drewN ?_ _ | refine blk_drew ?_ | refine blk_alloc ?_ _)); refine blk_put (cs := #[.int .i64 0, .string (⟨#[]⟩ : ByteArray), .int .i64 0, .int .i64 0]) ?_ 2 _ rfl; (with_reducible repeat (first | refine blk_drewN ?_ _ | refine blk_drew ?_ | refine blk_alloc ?_ _)); refine blk_put (cs := #[.int .i64 0, .string (⟨#[]⟩ : ByteArray), .int .i64 0, .int .i64 0]) ?_ 1 _ rfl; (with_reducible repeat (first | refine blk_drewN ?_ _ | refine blk_drew ?_ | refine blk_alloc ?_ _)); refine blk_put (cs := #[.int .i64 0, .string (⟨#[]⟩ : ByteArray), .int .i64 0, .int .i64 0]) ?_ 0 _ rfl; (with_reducible repeat (first | refine blk_drewN ?_ _ | refine blk_drew ?_ | refine blk_alloc ?_ _)); exact BK162.out) Tryd.underlying36 rfl (by kernel_rfl)) rfl ?_
      exact ⟨by first | rfl | (simp [errW_none, errW_some] <;> rfl) | (simp [*, errW_none, errW_some] <;> rfl), by repeat (first | (with_reducible first | exact HB.out | apply below_alloc | apply pw_below_drewN | apply below_drew1 | refine below_set ?_ GE162.out) | exact HB.out)⟩
     ·
      replace c24 := Bool.eq_false_iff.mpr c24
      subst c24
      have H1 : (if 0 ≤ x7_2 then (if x7_2 ≤ (a0.size : Int) then ((strconv_ParseInt_53.f (a0.extract 0 (x7_2 : Int).toNat) 10 64).bind fun bt165 => (if bt165.2.isNone = true then (if bt165.1 > 9007199254740991 then (some (0, (⟨#[]⟩ : ByteArray), 0, 0, 0, 41)) else (some (3, (⟨#[]⟩ : ByteArray), bt165.1, 0, x7_2, 0))) else (some (0, (⟨#[]⟩ : ByteArray), 0, 0, 0, 41)))) else (none)) else (none)) = some (r1, r2, r3, r4, r5, r6) := by rw [if_neg (show ¬ (false = true) by decide)] at H; exact H
      clear H
      have H := H1
      clear H1
      by_cases c26 : 0 ≤ x7_2
      ·
       rw [if_pos c26] at H
       have c26b0 := eq_true c26
       have c26b1 : decide (0 ≤ x7_2) = true := decide_eq_true c26
       clear c26
       by_cases c27 : x7_2 ≤ (a0.size : Int)
       ·
        rw [if_pos c27] at H
        have c27b0 := eq_true c27
        have c27b1 : decide (x7_2 ≤ (a0.size : Int)) = true := decide_eq_true c27
        clear c27
        replace H := Option.bind_eq_some_iff.mp H
        obtain ⟨⟨t165, t166⟩, A280, H⟩ := H
        replace H : (if t166.isNone = true then (if t165 > 9007199254740991 then (some (0, (⟨#[]⟩ : ByteArray), 0, 0, 0, 41)) else (some (3, (⟨#[]⟩ : ByteArray), t165, 0, x7_2, 0))) else (some (0, (⟨#[]⟩ : ByteArray), 0, 0, 0, 41))) = some (r1, r2, r3, r4, r5, r6) := H
        have A28 := Aside0.mk A280
        clear A280
        rcases t166 with _ | q167
        ·
         have H1 : (if t165 > 9007199254740991 then (some (0, (⟨#[]⟩ : ByteArray), 0, 0, 0, 41)) else (some (3, (⟨#[]⟩ : ByteArray), t165, 0, x7_2, 0))) = some (r1, r2, r3, r4, r5, r6) := by rw [if_pos (show (none : Option Int).isNone = true by rfl)] at H; exact H
         clear H
         have H := H1
         clear H1
         try simp only [errW_none, errW_some]
         by_cases c29 : t165 > 9007199254740991
         ·
          rw [if_pos c29] at H
          have c29b0 : decide (9007199254740991 < t165) = true := decide_eq_true c29
          clear c29
          simp only [Option.some.injEq, Prod.mk.injEq] at H
          obtain ⟨rfl, rfl, rfl, rfl, rfl, rfl⟩ := H
          go_wp2_with (first | ((with_reducible refine gate_callee (f := 53) rfl ?_); refine goesL_ (some 48) rfl rfl Tryd.func53 (by kernel_rfl) rfl #[.string (a0.extract 0 (x7_2 : Int).toNat), .int .i64 10, .int .i64 64] rfl (by (try simp only [List.map_toArray, List.map_cons, List.map_nil]); first | done | rfl | (simp only [List.length_drop, List.length_take]; rfl)) ?_; (with_reducible refine (strconv_ParseInt_53.calls (a0.extract 0 (x7_2 : Int).toNat) 10 64 t165 none _ A28.out).mono ?_); rintro e w30 ⟨⟨v_, rfl, hv1, hv2⟩, hb⟩; obtain rfl := hv1 rfl; clear hv1 hv2; refine ⟨_, rfl, ?_⟩; have n0_ := Aside0.mk (blk_below (g := gb162) (o := .cells #[.int .i64 0, .string (⟨#[]⟩ : ByteArray), .int .i64 0, .int .i64 0] 36 (0, 0)) (by (with_reducible repeat (first | refine blk_drewN ?_ _ | refine blk_drew ?_ | refine blk_alloc ?_ _)); exact BK162.out) hb); have n1_ := Aside0.mk (below_step (by repeat (first | (with_reducible first | exact HB.out | apply below_alloc | apply pw_below_drewN | apply below_drew1 | refine below_set ?_ GE162.out) | exact HB.out)) hb); clear BK162; clear HB; have BK162 := n0_; have HB := n1_; haveI := GW.of HB.out; clear n0_ n1_; (try clear hb); (try clear hb2); (try clear hk); (try clear hi); (try simp only [errW_none, errW_some]); have hcz31_0 : w30.cell? ⟨gb162, 0, none⟩ = some (.int .i64 0) := (blk_cell BK162.out 0).trans rfl; have hcz31_1 : w30.cell? ⟨gb162, 1, none⟩ = some (.string (⟨#[]⟩ : ByteArray)) := (blk_cell BK162.out 1).trans rfl; have hcz31_2 : w30.cell? ⟨gb162, 2, none⟩ = some (.int .i64 0) := (blk_cell BK162.out 2).trans rfl; have hcz31_3 : w30.cell? ⟨gb162, 3, none⟩ = some (.int .i64 0) := (blk_cell BK162.out 3).trans rfl; have hfz31_0 := blk_frozen BK162.out 0; have hfz31_1 := blk_frozen BK162.out 1; have hfz31_2 := blk_frozen BK162.out 2; have hfz31_3 := blk_frozen BK162.out 3))
          refine bodyPost_ret (results_ctt rfl _ _ gb162 36 #[.int .i64 0, .string (⟨#[]⟩ : ByteArray), .int .i64 0, .int .i64 0] (0, 0) _ rfl (by (with_reducible repeat (first | refine blk_drewN ?_ _ | refine blk_drew ?_ | refine blk_alloc ?_ _)); refine blk_put (cs := #[.int .i64 0, .string (⟨#[]⟩ : ByteArray), .int .i64 0, .int .i64 0]) ?_ 3 _ rfl; (with_reducible repeat (first | refine blk_drewN ?_ _ | refine blk_drew ?_ | refine blk_alloc ?_ _)); refine blk_put (cs := #[.int .i64 0, .string (⟨#[]⟩ : ByteArray), .int .i64 0, .int .i64 0]) ?_ 2 _ rfl; (with_reducible repeat (first | refine blk_drewN ?_ _ | refine blk_drew ?_ | refine blk_alloc ?_ _)); refine blk_put (cs := #[.int .i64 0, .string (⟨#[]⟩ : ByteArray), .int .i64 0, .int .i64 0]) ?_ 1 _ rfl; (with_reducible repeat (first | refine blk_drewN ?_ _ | refine blk_drew ?_ | refine blk_alloc ?_ _)); refine blk_put (cs := #[.int .i64 0, .string (⟨#[]⟩ : ByteArray), .int .i64 0, .int .i64 0]) ?_ 0 _ rfl; (with_reducible repeat (first | refine blk_drewN ?_ _ | refine blk_drew ?_ | refine blk_alloc ?_ _)); exact BK162.out) Tryd.underlying36 rfl (by kernel_rfl)) rfl ?_
          exact ⟨by first | rfl | (simp [errW_none, errW_some] <;> rfl) | (simp [*, errW_none, errW_some] <;> rfl), by repeat (first | (with_reducible first | exact HB.out | apply below_alloc | apply pw_below_drewN | apply below_drew1 | refine below_set ?_ GE162.out) | exact HB.out)⟩
         ·
          rw [if_neg c29] at H
          have c29b0 : decide (9007199254740991 < t165) = false := decide_eq_false c29
          clear c29
          simp only [Option.some.injEq, Prod.mk.injEq] at H
          obtain ⟨rfl, rfl, rfl, rfl, rfl, rfl⟩ := H
          go_wp2_with (first | ((with_reducible refine gate_callee (f := 53) rfl ?_); refine goesL_ (some 48) rfl rfl Tryd.func53 (by kernel_rfl) rfl #[.string (a0.extract 0 (x7_2 : Int).toNat), .int .i64 10, .int .i64 64] rfl (by (try simp only [List.map_toArray, List.map_cons, List.map_nil]); first | done | rfl | (simp only [List.length_drop, List.length_take]; rfl)) ?_; (with_reducible refine (strconv_ParseInt_53.calls (a0.extract 0 (x7_2 : Int).toNat) 10 64 t165 none _ A28.out).mono ?_); rintro e w32 ⟨⟨v_, rfl, hv1, hv2⟩, hb⟩; obtain rfl := hv1 rfl; clear hv1 hv2; refine ⟨_, rfl, ?_⟩; have n0_ := Aside0.mk (blk_below (g := gb162) (o := .cells #[.int .i64 0, .string (⟨#[]⟩ : ByteArray), .int .i64 0, .int .i64 0] 36 (0, 0)) (by (with_reducible repeat (first | refine blk_drewN ?_ _ | refine blk_drew ?_ | refine blk_alloc ?_ _)); exact BK162.out) hb); have n1_ := Aside0.mk (below_step (by repeat (first | (with_reducible first | exact HB.out | apply below_alloc | apply pw_below_drewN | apply below_drew1 | refine below_set ?_ GE162.out) | exact HB.out)) hb); clear BK162; clear HB; have BK162 := n0_; have HB := n1_; haveI := GW.of HB.out; clear n0_ n1_; (try clear hb); (try clear hb2); (try clear hk); (try clear hi); (try simp only [errW_none, errW_some]); have hcz33_0 : w32.cell? ⟨gb162, 0, none⟩ = some (.int .i64 0) := (blk_cell BK162.out 0).trans rfl; have hcz33_1 : w32.cell? ⟨gb162, 1, none⟩ = some (.string (⟨#[]⟩ : ByteArray)) := (blk_cell BK162.out 1).trans rfl; have hcz33_2 : w32.cell? ⟨gb162, 2, none⟩ = some (.int .i64 0) := (blk_cell BK162.out 2).trans rfl; have hcz33_3 : w32.cell? ⟨gb162, 3, none⟩ = some (.int .i64 0) := (blk_cell BK162.out 3).trans rfl; have hfz33_0 := blk_frozen BK162.out 0; have hfz33_1 := blk_frozen BK162.out 1; have hfz33_2 := blk_frozen BK162.out 2; have hfz33_3 := blk_frozen BK162.out 3))
          refine bodyPost_ret (results_ctt rfl _ _ gb162 36 #[.int .i64 3, .string (⟨#[]⟩ : ByteArray), .int .i64 t165, .int .i64 0] (0, 0) _ rfl (by (with_reducible repeat (first | refine blk_drewN ?_ _ | refine blk_drew ?_ | refine blk_alloc ?_ _)); refine blk_put (cs := #[.int .i64 3, .string (⟨#[]⟩ : ByteArray), .int .i64 t165, .int .i64 0]) ?_ 3 _ rfl; (with_reducible repeat (first | refine blk_drewN ?_ _ | refine blk_drew ?_ | refine blk_alloc ?_ _)); refine blk_put (cs := #[.int .i64 3, .string (⟨#[]⟩ : ByteArray), .int .i64 0, .int .i64 0]) ?_ 2 _ rfl; (with_reducible repeat (first | refine blk_drewN ?_ _ | refine blk_drew ?_ | refine blk_alloc ?_ _)); refine blk_put (cs := #[.int .i64 3, .string (⟨#[]⟩ : ByteArray), .int .i64 0, .int .i64 0]) ?_ 1 _ rfl; (with_reducible repeat (first | refine blk_drewN ?_ _ | refine blk_drew ?_ | refine blk_alloc ?_ _)); refine blk_put (cs := #[.int .i64 0, .string (⟨#[]⟩ : ByteArray), .int .i64 0, .int .i64 0]) ?_ 0 _ rfl; (with_reducible repeat (first | refine blk_drewN ?_ _ | refine blk_drew ?_ | refine blk_alloc ?_ _)); exact BK162.out) Tryd.underlying36 rfl (by kernel_rfl)) rfl ?_
          exact ⟨by first | rfl | (simp [errW_none, errW_some] <;> rfl) | (simp [*, errW_none, errW_some] <;> rfl), by repeat (first | (with_reducible first | exact HB.out | apply below_alloc | apply pw_below_drewN | apply below_drew1 | refine below_set ?_ GE162.out) | exact HB.out)⟩
        ·
         have H1 : (some (0, (⟨#[]⟩ : ByteArray), 0, 0, 0, 41)) = some (r1, r2, r3, r4, r5, r6) := by rw [if_neg (show ¬ (some q167).isNone = true by simp)] at H; exact H
         clear H
         have H := H1
         clear H1
         try simp only [errW_none, errW_some]
         simp only [Option.some.injEq, Prod.mk.injEq] at H
         obtain ⟨rfl, rfl, rfl, rfl, rfl, rfl⟩ := H
         go_wp2_with (first | ((with_reducible refine gate_callee (f := 53) rfl ?_); refine goesL_ (some 48) rfl rfl Tryd.func53 (by kernel_rfl) rfl #[.string (a0.extract 0 (x7_2 : Int).toNat), .int .i64 10, .int .i64 64] rfl (by (try simp only [List.map_toArray, List.map_cons, List.map_nil]); first | done | rfl | (simp only [List.length_drop, List.length_take]; rfl)) ?_; (with_reducible refine (strconv_ParseInt_53.calls (a0.extract 0 (x7_2 : Int).toNat) 10 64 t165 (some q167) _ A28.out).mono ?_); rintro e w34 ⟨⟨v_, rfl, hv1, hv2⟩, hb⟩; obtain ⟨t_, p_, rfl⟩ := hv2 (by simp); clear hv1 hv2; refine ⟨_, rfl, ?_⟩; have n0_ := Aside0.mk (blk_below (g := gb162) (o := .cells #[.int .i64 0, .string (⟨#[]⟩ : ByteArray), .int .i64 0, .int .i64 0] 36 (0, 0)) (by (with_reducible repeat (first | refine blk_drewN ?_ _ | refine blk_drew ?_ | refine blk_alloc ?_ _)); exact BK162.out) hb); have n1_ := Aside0.mk (below_step (by repeat (first | (with_reducible first | exact HB.out | apply below_alloc | apply pw_below_drewN | apply below_drew1 | refine below_set ?_ GE162.out) | exact HB.out)) hb); clear BK162; clear HB; have BK162 := n0_; have HB := n1_; haveI := GW.of HB.out; clear n0_ n1_; (try clear hb); (try clear hb2); (try clear hk); (try clear hi); (try simp only [errW_none, errW_some]); have hcz35_0 : w34.cell? ⟨gb162, 0, none⟩ = some (.int .i64 0) := (blk_cell BK162.out 0).trans rfl; have hcz35_1 : w34.cell? ⟨gb162, 1, none⟩ = some (.string (⟨#[]⟩ : ByteArray)) := (blk_cell BK162.out 1).trans rfl; have hcz35_2 : w34.cell? ⟨gb162, 2, none⟩ = some (.int .i64 0) := (blk_cell BK162.out 2).trans rfl; have hcz35_3 : w34.cell? ⟨gb162, 3, none⟩ = some (.int .i64 0) := (blk_cell BK162.out 3).trans rfl; have hfz35_0 := blk_frozen BK162.out 0; have hfz35_1 := blk_frozen BK162.out 1; have hfz35_2 := blk_frozen BK162.out 2; have hfz35_3 := blk_frozen BK162.out 3))
         refine bodyPost_ret (results_ctt rfl _ _ gb162 36 #[.int .i64 0, .string (⟨#[]⟩ : ByteArray), .int .i64 0, .int .i64 0] (0, 0) _ rfl (by (with_reducible repeat (first | refine blk_drewN ?_ _ | refine blk_drew ?_ | refine blk_alloc ?_ _)); refine blk_put (cs := #[.int .i64 0, .string (⟨#[]⟩ : ByteArray), .int .i64 0, .int .i64 0]) ?_ 3 _ rfl; (with_reducible repeat (first | refine blk_drewN ?_ _ | refine blk_drew ?_ | refine blk_alloc ?_ _)); refine blk_put (cs := #[.int .i64 0, .string (⟨#[]⟩ : ByteArray), .int .i64 0, .int .i64 0]) ?_ 2 _ rfl; (with_reducible repeat (first | refine blk_drewN ?_ _ | refine blk_drew ?_ | refine blk_alloc ?_ _)); refine blk_put (cs := #[.int .i64 0, .string (⟨#[]⟩ : ByteArray), .int .i64 0, .int .i64 0]) ?_ 1 _ rfl; (with_reducible repeat (first | refine blk_drewN ?_ _ | refine blk_drew ?_ | refine blk_alloc ?_ _)); refine blk_put (cs := #[.int .i64 0, .string (⟨#[]⟩ : ByteArray), .int .i64 0, .int .i64 0]) ?_ 0 _ rfl; (with_reducible repeat (first | refine blk_drewN ?_ _ | refine blk_drew ?_ | refine blk_alloc ?_ _)); exact BK162.out) Tryd.underlying36 rfl (by kernel_rfl)) rfl ?_
         exact ⟨by first | rfl | (simp [errW_none, errW_some] <;> rfl) | (simp [*, errW_none, errW_some] <;> rfl), by repeat (first | (with_reducible first | exact HB.out | apply below_alloc | apply pw_below_drewN | apply below_drew1 | refine below_set ?_ GE162.out) | exact HB.out)⟩
       ·
        rw [if_neg c27] at H
        exact absurd H (by simp)
      ·
       rw [if_neg c26] at H
       exact absurd H (by simp)

-- NOT PRINTED: function 79 (abi_NoEscape)

-- NOT PRINTED: function 62 (strings_Builder_copyCheck)

-- NOT PRINTED: function 43 (strings_Builder_WriteString)

-- NOT PRINTED: function 44 (strings_Builder_String)

/-! ### runes_Unquote -/
theorem uq_index_lt : ∀ (l : List UInt8) (c : UInt8), 0 ≤ Lib.indexByte l c → Lib.indexByte l c < (l.length : Int)
  | [], _, h => by simp [Lib.indexByte] at h
  | b :: l, c, h => by
    have ih := uq_index_lt l c
    rw [Lib.indexByte] at h ⊢
    split at h
    · rename_i h1
      rw [if_pos h1]
      simp only [List.length_cons]
      omega
    · rename_i h1
      rw [if_neg h1]
      split at h
      · omega
      · rename_i h2
        rw [if_neg h2]
        simp only [List.length_cons]
        omega
theorem uq_encode_le (n : Int) : (Utf8.encode n).size ≤ 4 := by
  unfold Utf8.encode
  simp only
  repeat' split
  all_goals first | exact Nat.le_refl _ | (show 1 ≤ 4; omega) | (show 2 ≤ 4; omega) | (show 3 ≤ 4; omega)
theorem uq_esc_le (s : ByteArray) : 0 ≤ (escOf s).2 ∧ (escOf s).2 ≤ (s.size : Int) ∧ (escOf s).1.size ≤ 4 := by
  unfold escOf
  split
  · exact ⟨by simp, by simp, Nat.zero_le 4⟩
  · have h1 : (s.extract 0 1).size ≤ 4 := by rw [ByteArray.size_extract]; omega
    split
    · exact ⟨by simp, by simp only; omega, by show 1 ≤ 4; omega⟩
    · split
      · exact ⟨by simp, by simp only; omega, by show 1 ≤ 4; omega⟩
      · split
        · exact ⟨by simp, by simp only; omega, h1⟩
        · split
          · have hlt := uq_index_lt s.data.toList 125
            rw [← Lib.size_eq] at hlt
            unfold escU
            generalize Lib.indexByte s.data.toList 125 = E at hlt ⊢
            split
            · exact ⟨by simp, by simp, Nat.zero_le 4⟩
            · rename_i hc
              have h3 : ¬ E < 3 := fun h => hc (Or.inr (Or.inr (Or.inl h)))
              split
              · exact ⟨by simp, by simp, Nat.zero_le 4⟩
              · split
                · refine ⟨by simp only; omega, by simp only; omega, ?_⟩
                  simp only
                  exact uq_encode_le _
                · exact ⟨by simp, by simp, Nat.zero_le 4⟩
          · exact ⟨by simp, by simp, Nat.zero_le 4⟩
theorem uq_n (n b0 b1 b2 b3 : Nat) (hn : 1 ≤ n) : 1 ≤ (Lib.decodeN n b0 b1 b2 b3).2 ∧ (Lib.decodeN n b0 b1 b2 b3).2 ≤ n ∧ (Lib.decodeN n b0 b1 b2 b3).2 ≤ 4 := by
  unfold Lib.decodeN
  repeat' split
  all_goals (simp only; omega)
theorem uq_dec (s : ByteArray) (pos : Nat) (h : pos < s.size) : 1 ≤ (Lib.decodeGo (s.extract pos s.size)).2 ∧ pos + (Lib.decodeGo (s.extract pos s.size)).2 ≤ s.size ∧ (Lib.decodeGo (s.extract pos s.size)).2 ≤ 4 := by
  have hz : (s.extract pos s.size).size = s.size - pos := by rw [ByteArray.size_extract]; omega
  unfold Lib.decodeGo
  rw [if_neg (by omega), Lib.decode_at, hz]
  have := uq_n (s.size - pos - 0) ((s.extract pos s.size).get! 0).toNat ((s.extract pos s.size).get! (0 + 1)).toNat ((s.extract pos s.size).get! (0 + 2)).toNat ((s.extract pos s.size).get! (0 + 3)).toNat (by omega)
  exact ⟨this.1, by omega, this.2.2⟩
/-- A builder stays one behind whatever leaves the old blocks as they stood. -/
theorem uq_below {T e : TypeId} {B b : Nat} {bs : List Value} {W W' : World} (h : Lib.IsBuilderF T e B b bs W) (hb : Below W.heap.size W W') : Lib.IsBuilderF T e B b bs W' := by
  have one : ∀ p, Lib.BuilderAtF T e B b p bs W → Lib.BuilderAtF T e B b p bs W' := by
    intro p x
    have hlt := x.lt
    obtain ⟨x1, v, x2, x3, x4⟩ := x
    exact ⟨x1, v, (hb.block b hlt).trans x2, x3.kept (row := none) ⟨hb.os, hb.tape, hb.output, hb.size, fun k hk _ => hb.block k hk⟩ (Classical.em _), x4⟩
  rcases h with h | h
  · exact .inl (one _ h)
  · exact .inr (one _ h)
/-- What a text in quotes says, from place i on. -/
def runes_Unquote.go (s : ByteArray) : Nat → Nat → List UInt8 → ByteArray × Int × Int
  | 0, _, _ => (⟨#[]⟩, 0, 10)
  | k + 1, i, acc => if i < s.size then
      (if bt s i = bt s 0 then (⟨acc.toArray⟩, (i : Int) + 1, 0)
       else if bt s i = 92 then (if (escOf (s.extract (i + 1) s.size)).2 = 0 then (⟨#[]⟩, 0, 10) else runes_Unquote.go s k (i + 1 + (escOf (s.extract (i + 1) s.size)).2.toNat) (acc ++ (escOf (s.extract (i + 1) s.size)).1.data.toList))
       else if (Lib.decodeGo (s.extract i s.size)).1 = 10 ∨ (Lib.decodeGo (s.extract i s.size)).1 = 13 ∨ ((Lib.decodeGo (s.extract i s.size)).1 = 65533 ∧ (Lib.decodeGo (s.extract i s.size)).2 = 1) then (⟨#[]⟩, 0, 10)
       else runes_Unquote.go s k (i + (Lib.decodeGo (s.extract i s.size)).2) (acc ++ (s.extract i (i + (Lib.decodeGo (s.extract i s.size)).2)).data.toList))
    else (⟨#[]⟩, 0, 10)
def runes_Unquote.f (a0 : ByteArray) : Option (ByteArray × Int × Int) := if a0.size ≤ 1099511627776 then (if a0.size = 0 ∨ (bt a0 0 ≠ 34 ∧ bt a0 0 ≠ 39) then some (⟨#[]⟩, 0, 10) else some (runes_Unquote.go a0 a0.size 1 [])) else none
theorem uq_cells (s : ByteArray) : Lib.strCells s = Lib.byteCells s.data.toList := by
  simp [Lib.strCells, Lib.byteCells]
set_option maxHeartbeats 8000000 in
set_option maxRecDepth 100000 in
theorem runes_Unquote.calls (a0 : ByteArray) (r1 : ByteArray) (r2 : Int) (r3 : Int) (w : World) [GW w] (h : runes_Unquote.f a0 = some (r1, r2, r3)) :
    Calls Tryd.prog 32 #[.string a0] w fun e w' => e = .returned (.tuple #[.string r1, .int .i64 r2, .int .i64 r3]) ∧ Below w.heap.size w w' := by
  unfold runes_Unquote.f at h
  split at h
  · rename_i hs
    by_cases h0 : a0.size = 0
    · rw [if_pos (Or.inl h0)] at h
      simp only [Option.some.injEq, Prod.mk.injEq] at h
      obtain ⟨rfl, rfl, rfl⟩ := h
      have hE : a0 = ⟨#[]⟩ := by
        apply ByteArray.ext
        exact Array.eq_empty_of_size_eq_zero h0
      subst hE
      go_enter Tryd.func32, Tryd.ntmps32
      go_wp2
      go_ret3
      exact ⟨rfl, Below.refl _ _⟩
    · have hne : (a0.toList == ([] : List UInt8)) = false := by
        rw [beq_eq_false_iff_ne]
        intro e
        apply h0
        rw [Lib.size_eq, ← Lib.toList_data, e]
        rfl
      have hne2 : a0.toList.isEmpty = false := by simpa using hne
      have hx0 : ∀ h : 0 < a0.size, ((a0[0]'h).toNat : Int) = bt a0 0 := bt_at a0 0
      have q0 : (0 < a0.size) = True := eq_true (by omega)
      have qi0 : (0 < (a0.size : Int)) = True := eq_true (by omega)
      by_cases hq : bt a0 0 ≠ 34 ∧ bt a0 0 ≠ 39
      · rw [if_pos (Or.inr hq)] at h
        simp only [Option.some.injEq, Prod.mk.injEq] at h
        obtain ⟨rfl, rfl, rfl⟩ := h
        have n1 : (bt a0 0 != 34) = true := bne_iff_ne.2 hq.1
        have n2 : (bt a0 0 != 39) = true := bne_iff_ne.2 hq.2
        clear hq h0
        go_enter Tryd.func32, Tryd.ntmps32
        go_wp2
        go_ret3
        exact ⟨rfl, Below.refl _ _⟩
      · rw [if_neg (fun e => e.elim h0 hq)] at h
        have HR := Aside0.mk (Option.some.inj h)
        have HS := Aside0.mk hs
        have hb : (bt a0 0 != 34) = false ∨ ((bt a0 0 != 34) = true ∧ (bt a0 0 != 39) = false) := by
          simp only [bne_iff_ne, bne_eq_false_iff_eq]
          omega
        have HB0 : Aside0 (Below w.heap.size w (w.alloc (.cells #[.pointer none, .slice none 0 0] 68))) := ⟨(Below.refl _ _).alloc (Nat.le_refl _) _⟩
        have HI0 : Aside0 (Lib.IsBuilderF 68 5 w.heap.size w.heap.size (Lib.byteCells []) (w.alloc (.cells #[.pointer none, .slice none 0 0] 68))) := ⟨Lib.IsBuilderF.of (Lib.fresh_isBuilder 68 5 w)⟩
        have H1 : Aside0 (1 ≤ a0.size) := ⟨by omega⟩
        clear h hs hq h0
        rcases hb with n1 | ⟨n1, n2⟩
        all_goals
          go_enter Tryd.func32, Tryd.ntmps32
          go_wp2
          go_loopw [6] (fun v6 wr => ∃ (pos fuel : Nat) (acc : List UInt8), v6 = .int .i64 pos ∧ Aside0 (Lib.IsBuilderF 68 5 w.heap.size w.heap.size (Lib.byteCells acc) wr) ∧ Aside0 (Below w.heap.size w wr) ∧ Aside0 (runes_Unquote.go a0 fuel pos acc = (r1, r2, r3)) ∧ Aside0 (a0.size ≤ pos + fuel ∧ 1 ≤ pos ∧ pos ≤ a0.size ∧ acc.length ≤ 4 * pos)) (fun v6 wr => a0.size - (intOf v6).toNat)
          case atStart =>
            refine ⟨1, a0.size, [], rfl, HI0, HB0, HR, ⟨by omega, by omega, H1.out, by simp⟩⟩
          case round =>
            obtain ⟨pos, fuel, acc, rfl, HI, HB, HA, HF⟩ := hrel
            haveI := GW.of HB.out
            have hss := HS.out
            obtain ⟨f1, f2, f3, f4⟩ := HF.out
            by_cases hp : pos < a0.size
            · obtain ⟨f, rfl⟩ : ∃ f, fuel = f + 1 := ⟨fuel - 1, by omega⟩
              have hg := HA.out
              rw [runes_Unquote.go, if_pos hp] at hg
              obtain ⟨d1, d2, d3⟩ := uq_dec a0 pos hp
              obtain ⟨X, hX⟩ : ∃ X, a0.extract pos a0.size = X := ⟨_, rfl⟩
              have hsl : ∀ W, (Instr.slice 9 (.string a0) (some (.int .i64 (pos : Int))) none none).run Tryd.prog W = .ok (.string X) W := fun W => by
                rw [run_slice_string_l W 9 a0 Tryd.underlying9 .i64 (pos : Int) (by omega) (by omega), Int.toNat_natCast, hX]
              rw [hX] at hg d1 d2 d3
              obtain ⟨v, hv⟩ : ∃ v, (Lib.decodeGo X).1 = v := ⟨_, rfl⟩
              obtain ⟨n, hn⟩ : ∃ n, (Lib.decodeGo X).2 = n := ⟨_, rfl⟩
              have hC := fun W hT => Tryd.utf8_DecodeRuneInString X W hT
              rw [hv, hn] at hC hg
              rw [hn] at d1 d2 d3
              have HC := Aside0.mk hC
              have HX := Aside0.mk hX
              have hx1 : ∀ h : pos < a0.size, ((a0[pos]'h).toNat : Int) = bt a0 (pos : Int) := bt_at a0 pos
              have t1 : decide (pos < a0.size) = true := decide_eq_true hp
              have t1' : decide ((pos : Int) < (a0.size : Int)) = true := decide_eq_true (by omega)
              have q1 : (pos < a0.size) = True := eq_true hp
              have q2 : ((pos : Int) < (a0.size : Int)) = True := eq_true (by omega)
              clear hC hX hv hn HA HF
              by_cases c1 : bt a0 pos = bt a0 0
              · rw [if_pos c1] at hg
                have HG := Aside0.mk hg
                have e1 : (bt a0 pos == bt a0 0) = true := beq_iff_eq.2 c1
                have hwr : wrap64 ((pos : Int) + 1) = (pos : Int) + 1 := by unfold wrap64; omega
                clear hg c1
                go_wp2_with (go_at_call 50; refine (HC.out _ GW.u8).mono ?_; rintro e W1 ⟨rfl, hb1⟩; have HI1 := Aside0.mk (uq_below HI.out hb1); have HB1 := Aside0.mk (below_step HB.out hb1); clear hb1)
                go_quiet (fail)
                go_wp2_with (go_at_call 44; refine (Tryd.Builder_String_any_k w.heap.size w.heap.size acc _ (uq_below HI1.out (pw_below_drewN (Below.refl _ _) _)) (pw_below_drewN HB1.out _).size).mono ?_; rintro e W5 ⟨rfl, h1, b1, k1⟩; have HB5 := Aside0.mk ((pw_below_drewN HB1.out _).trans b1); clear h1 b1 k1)
                go_ret3
                obtain ⟨rfl, rfl, rfl⟩ : _ ∧ _ ∧ _ := by simpa only [Prod.mk.injEq] using HG.out
                exact ⟨rfl, HB5.out⟩
              · rw [if_neg c1] at hg
                have e1 : (bt a0 pos == bt a0 0) = false := beq_eq_false_iff_ne.2 c1
                by_cases c2 : bt a0 pos = 92
                · rw [if_pos c2] at hg
                  have e2 : (bt a0 pos == 92) = true := beq_iff_eq.2 c2
                  obtain ⟨Y, hY⟩ : ∃ Y, a0.extract (pos + 1) a0.size = Y := ⟨_, rfl⟩
                  have hsl2 : ∀ W, (Instr.slice 9 (.string a0) (some (.int .i64 ((pos : Int) + 1))) none none).run Tryd.prog W = .ok (.string Y) W := fun W => by
                    rw [run_slice_string_l W 9 a0 Tryd.underlying9 .i64 ((pos : Int) + 1) (by omega) (by omega), show ((pos : Int) + 1).toNat = pos + 1 by omega, hY]
                  have hYs : Y.size = a0.size - (pos + 1) := by rw [← hY, ByteArray.size_extract]; omega
                  obtain ⟨g1, g2, g3⟩ := uq_esc_le Y
                  rw [hY] at hg
                  obtain ⟨t, ht⟩ : ∃ t, (escOf Y).1 = t := ⟨_, rfl⟩
                  obtain ⟨m, hm⟩ : ∃ m, (escOf Y).2 = m := ⟨_, rfl⟩
                  have hC2 := fun W => runes_escape.calls Y W (by omega)
                  rw [ht, hm] at hC2 hg
                  rw [hm] at g1 g2
                  rw [ht] at g3
                  obtain ⟨k, rfl⟩ : ∃ k : Nat, m = k := ⟨m.toNat, by omega⟩
                  rw [Int.toNat_natCast] at hg
                  have HC2 := Aside0.mk hC2
                  have hks : pos + 1 + k ≤ a0.size := by omega
                  clear hY hYs ht hm hC2 c1 c2 g1 g2
                  by_cases c3 : (k : Int) = 0
                  · rw [if_pos c3] at hg
                    have HG := Aside0.mk hg
                    have e3 : ((k : Int) == 0) = true := beq_iff_eq.2 c3
                    clear hg c3
                    go_wp2_with (go_at_call 50; refine (HC.out _ GW.u8).mono ?_; rintro e W1 ⟨rfl, hb1⟩; have HB1 := Aside0.mk (below_step HB.out hb1); clear hb1)
                    go_quiet (fail)
                    go_wp2_with (go_at_call 54; refine (HC2.out _).mono ?_; rintro e W2 ⟨rfl, hb2⟩; have HB2 := Aside0.mk (below_step (pw_below_drewN HB1.out _) hb2); clear hb2)
                    go_ret3
                    obtain ⟨rfl, rfl, rfl⟩ : _ ∧ _ ∧ _ := by simpa only [Prod.mk.injEq] using HG.out
                    exact ⟨rfl, HB2.out⟩
                  · rw [if_neg c3] at hg
                    have HG := Aside0.mk hg
                    have e3 : ((k : Int) == 0) = false := beq_eq_false_iff_ne.2 c3
                    have k1 : 1 ≤ k := by omega
                    clear hg c3
                    go_wp2_with (go_at_call 50; refine (HC.out _ GW.u8).mono ?_; rintro e W1 ⟨rfl, hb1⟩; have HI1 := Aside0.mk (uq_below HI.out hb1); have HB1 := Aside0.mk (below_step HB.out hb1); clear hb1)
                    go_quiet (fail)
                    go_wp2_with (first | (go_at_call 54; refine (HC2.out _).mono ?_; rintro e W2 ⟨rfl, hb2⟩; have HI2 := Aside0.mk (uq_below (uq_below HI1.out (pw_below_drewN (Below.refl _ _) _)) hb2); have HB2 := Aside0.mk (below_step (pw_below_drewN HB1.out _) hb2); clear hb2) | (go_at_call 43; refine (Tryd.Builder_WriteString_k w.heap.size w.heap.size _ t _ HI2.out (by rw [Lib.byteCells_length]; omega) HB2.out.size).mono ?_; rintro e W5 ⟨rfl, h1, b1, k1⟩; have HI9 := Aside0.mk (show Lib.IsBuilderF 68 5 w.heap.size w.heap.size (Lib.byteCells (acc ++ t.data.toList)) W5 from by rw [Lib.byteCells_append, ← uq_cells]; exact Or.inr h1); have HB9 := Aside0.mk (HB2.out.trans b1); clear h1 b1 k1))
                    go_roundw
                    case rel => exact ⟨pos + 1 + k, f, acc ++ t.data.toList, by go_num, HI9, HB9, HG, ⟨by omega, by omega, by omega, by rw [List.length_append, ← Lib.size_eq]; omega⟩⟩
                    case measure => simp [intOf]; omega
                · rw [if_neg c2] at hg
                  have e2 : (bt a0 pos == 92) = false := beq_eq_false_iff_ne.2 c2
                  clear c1 c2
                  by_cases c3 : v = 10 ∨ v = 13 ∨ (v = 65533 ∧ n = 1)
                  · rw [if_pos c3] at hg
                    have HG := Aside0.mk hg
                    have hb3 : ((v : Int) == 10) = true ∨ (((v : Int) == 10) = false ∧ ((v : Int) == 13) = true) ∨ (((v : Int) == 10) = false ∧ ((v : Int) == 13) = false ∧ ((v : Int) == 65533) = true ∧ ((n : Int) == 1) = true) := by
                      simp only [beq_iff_eq, beq_eq_false_iff_ne]
                      omega
                    clear hg c3
                    rcases hb3 with b3 | ⟨b3, b4⟩ | ⟨b3, b4, b5, b6⟩
                    all_goals
                      go_wp2_with (go_at_call 50; refine (HC.out _ GW.u8).mono ?_; rintro e W1 ⟨rfl, hb1⟩; have HB1 := Aside0.mk (below_step HB.out hb1); clear hb1)
                      go_quiet (fail)
                      go_wp2
                      go_ret3
                      obtain ⟨rfl, rfl, rfl⟩ : _ ∧ _ ∧ _ := by simpa only [Prod.mk.injEq] using HG.out
                      exact ⟨rfl, pw_below_drewN HB1.out _⟩
                  · rw [if_neg c3] at hg
                    obtain ⟨Y, hY⟩ : ∃ Y, a0.extract pos (pos + n) = Y := ⟨_, rfl⟩
                    rw [hY] at hg
                    have HG := Aside0.mk hg
                    have hsl2 : ∀ W, (Instr.slice 9 (.string a0) (some (.int .i64 (pos : Int))) (some (.int .i64 ((pos : Int) + (n : Int)))) none).run Tryd.prog W = .ok (.string Y) W := fun W => by
                      rw [run_slice_string W 9 a0 .i64 .i64 (pos : Int) ((pos : Int) + (n : Int)) Tryd.underlying9 (by omega) (by omega) (by omega), Int.toNat_natCast, show ((pos : Int) + (n : Int)).toNat = pos + n by omega]
                      show Result.ok (Value.string (a0.extract pos (pos + n))) W = _
                      rw [hY]
                    have hYs : Y.size = n := by rw [← hY, ByteArray.size_extract]; omega
                    have HY := Aside0.mk hYs
                    have hb3 : (((v : Int) == 10) = false ∧ ((v : Int) == 13) = false ∧ ((v : Int) == 65533) = false) ∨ (((v : Int) == 10) = false ∧ ((v : Int) == 13) = false ∧ ((v : Int) == 65533) = true ∧ ((n : Int) == 1) = false) := by
                      simp only [beq_iff_eq, beq_eq_false_iff_ne]
                      omega
                    clear hg c3 hY hYs
                    rcases hb3 with ⟨b3, b4, b5⟩ | ⟨b3, b4, b5, b6⟩
                    all_goals
                      go_wp2_with (go_at_call 50; refine (HC.out _ GW.u8).mono ?_; rintro e W1 ⟨rfl, hb1⟩; have HI1 := Aside0.mk (uq_below HI.out hb1); have HB1 := Aside0.mk (below_step HB.out hb1); clear hb1)
                      go_quiet (fail)
                      go_wp2_with (go_at_call 43; refine (Tryd.Builder_WriteString_k w.heap.size w.heap.size _ Y _ (uq_below HI1.out (pw_below_drewN (Below.refl _ _) _)) (by rw [Lib.byteCells_length]; have := HY.out; omega) (pw_below_drewN HB1.out _).size).mono ?_; rintro e W5 ⟨rfl, h1, b1, k1⟩; have HI9 := Aside0.mk (show Lib.IsBuilderF 68 5 w.heap.size w.heap.size (Lib.byteCells (acc ++ Y.data.toList)) W5 from by rw [Lib.byteCells_append, ← uq_cells]; exact Or.inr h1); have HB9 := Aside0.mk ((pw_below_drewN HB1.out _).trans b1); clear h1 b1 k1)
                      go_roundw
                      case rel => exact ⟨pos + n, f, acc ++ Y.data.toList, by go_num, HI9, HB9, HG, ⟨by omega, by omega, by omega, by rw [List.length_append, ← Lib.size_eq, HY.out]; omega⟩⟩
                      case measure => simp [intOf]; omega
            · have t1 : decide (pos < a0.size) = false := decide_eq_false hp
              have t1' : decide ((pos : Int) < (a0.size : Int)) = false := decide_eq_false (by omega)
              have hg := HA.out
              have hge : runes_Unquote.go a0 fuel pos acc = (⟨#[]⟩, 0, 10) := by
                cases fuel with
                | zero => rfl
                | succ f => rw [runes_Unquote.go, if_neg hp]
              rw [hge] at hg
              obtain ⟨rfl, rfl, rfl⟩ : _ ∧ _ ∧ _ := by simpa only [Prod.mk.injEq] using hg
              clear hge hg
              go_wp2
              go_ret3
              exact ⟨rfl, HB.out⟩
  · cases h

end Go.Proofs.YtbnpgobjbokboaaDoor.PLex
