/- HC, as this claim needs it. -/
import Derived.Test.YtjcajpkgamolkaaDoorHBq
import Derived.Test.YtjcajpkgamolkaaDoorPTypx0q
import Derived.Test.YtjcajpkgamolkaaDoorShelfq
namespace Go.Proofs.YtjcajpkgamolkaaDoor.Ty
open Go.RowKit Go.Proofs.YtjcajpkgamolkaaDoor.PTyp Go.Proofs.YtjcajpkgamolkaaDoorW.PrintWords Go.Proofs.YtjcajpkgamolkaaDoorW.PrintLast Go.Proofs.YtjcajpkgamolkaaDoorW.PrintMore
set_option linter.unusedVariables false
set_option linter.unusedSimpArgs false
def RowsT (W : World) (t : Ty) (A2 : Option Addr) (c2 : Nat) (A3 : Option Addr) (c3 : Nat) : Prop := t.f2.length ≤ c2 ∧ Kd.string.C W A2 t.f2.length t.f2 ∧ t.f3.length ≤ c3 ∧ k25.C W A3 t.f3.length t.f3
theorem RowsT.below {W X : World} {A2 A3 : Option Addr} {c2 c3 : Nat} {t : Ty} (h : RowsT W t A2 c2 A3 c3) (hB : Below W.heap.size W X) : RowsT X t A2 c2 A3 c3 := ⟨h.1, Kd.C_below h.2.1 hB, h.2.2.1, Kd.C_below h.2.2.2 hB⟩
def KindsT (W : World) (ks : List Int) (A : Option Addr) : Prop := ∀ j (h : j < ks.length), ∃ ad : Addr, A = some ad ∧ W.cell? (ad.add j) = some (.int .i64 ks[j])
theorem KindsT.below {W X : World} {ks : List Int} {A : Option Addr} (h : KindsT W ks A) (hB : Below W.heap.size W X) : KindsT X ks A := fun j hj => by
  obtain ⟨ad, e, hc⟩ := h j hj
  exact ⟨ad, e, pw_cell_below hB hc⟩
def ShowOk (t : Ty) : Prop := ∀ (A2 : Option Addr) (c2 : Nat) (A3 : Option Addr) (c3 : Nat) (W : World) [GW W], RowsT W t A2 c2 A3 c3 → Calls Tryd.prog 38 #[.agg #[.int .i64 t.f0, .int .i64 t.f1, .slice A2 t.f2.length c2, .slice A3 t.f3.length c3]] W fun e w' => e = .returned (.string (showT t)) ∧ Below W.heap.size W w'
def HeldT (p : Prop) : Prop := p
theorem holdT_ {p : Prop} (h : HeldT p) : p := h
theorem at_ty {w W : World} {A : Option Addr} {l : List Ty} (h : k25.C w A l.length l) (hB : Below w.heap.size w W) {i : Nat} (hi : i < l.length) : ∃ ad A2 c2 A3 c3, A = some ad ∧ W.cell? (ad.add (i * 4)) = some (.int .i64 l[i].f0) ∧ W.cell? ⟨(ad.add (i * 4)).block, (ad.add (i * 4)).off + 1, none⟩ = some (.int .i64 l[i].f1) ∧ W.cell? ⟨(ad.add (i * 4)).block, (ad.add (i * 4)).off + 2, none⟩ = some (.slice A2 l[i].f2.length c2) ∧ W.cell? ⟨(ad.add (i * 4)).block, (ad.add (i * 4)).off + 3, none⟩ = some (.slice A3 l[i].f3.length c3) ∧ RowsT w l[i] A2 c2 A3 c3 := by
  obtain ⟨ad, A2, c2, A3, c3, e, q0, q1, q2, q3, l2, g2, l3, g3⟩ := at_T25 h (i : Int) (by omega) (by omega)
  rw [rd_at hi] at q0 q1 q2 q3 l2 g2 l3 g3
  rw [Int.toNat_natCast] at q0 q1 q2 q3
  exact ⟨ad, A2, c2, A3, c3, e, pw_cell_below hB q0, pw_cell_below hB q1, pw_cell_below hB q2, pw_cell_below hB q3, l2, g2, l3, g3⟩
end Go.Proofs.YtjcajpkgamolkaaDoor.Ty
namespace Go.Proofs.YtjcajpkgamolkaaDoor.Ty
open Go.RowKit Go.Proofs.YtjcajpkgamolkaaDoor.PTyp Go.Proofs.YtjcajpkgamolkaaDoorW.PrintWords Go.Proofs.YtjcajpkgamolkaaDoorW.PrintLast Go.Proofs.YtjcajpkgamolkaaDoorW.PrintMore
set_option linter.unusedVariables false
set_option linter.unusedSimpArgs false
set_option maxHeartbeats 1000000 in
set_option maxRecDepth 100000 in
theorem within_calls (t : Ty) (h : ShowOk t) (hs : (showT t).size ≤ 70368744177664) (ks : List Int) (hks : ks.length ≤ 2) (Ak : Option Addr) (ck : Nat) (A2 A3 : Option Addr) (c2 c3 : Nat) (w : World) [GW w] (hr : RowsT w t A2 c2 A3 c3) (hk : KindsT w ks Ak) :
    Calls Tryd.prog 54 #[.agg #[.int .i64 t.f0, .int .i64 t.f1, .slice A2 t.f2.length c2, .slice A3 t.f3.length c3], .slice Ak ks.length ck] w fun e w' => e = .returned (.string (inT ks t)) ∧ Below w.heap.size w w' := by
  have hu25 := Tryd.underlying25
  have H := Aside0.mk h
  have HR := Aside0.mk hr
  have HK := Aside0.mk hk
  have hB := Aside0.mk (below_alloc (Below.refl w.heap.size w) (.cells #[.int .i64 t.f0, .int .i64 t.f1, .slice A2 t.f2.length c2, .slice A3 t.f3.length c3] 25))
  have B0 := Aside0.mk (heap_alloc_new w (.cells #[.int .i64 t.f0, .int .i64 t.f1, .slice A2 t.f2.length c2, .slice A3 t.f3.length c3] 25))
  clear h hr hk
  go_enter Tryd.func54, Tryd.ntmps54
  go_wp2
  go_loopw [6, 9] (fun v6 v9 W => ∃ i : Nat, v9 = .int .i64 i ∧ i ≤ ks.length ∧ Aside0 (∀ j (hj : j < ks.length), j < i → ks[j] ≠ t.f0) ∧ W = w.alloc (.cells #[.int .i64 t.f0, .int .i64 t.f1, .slice A2 t.f2.length c2, .slice A3 t.f3.length c3] 25)) (fun _ v9 _ => ks.length + 1 - (RowKit.intOf v9).toNat)
  case atStart => exact ⟨0, rfl, Nat.zero_le _, ⟨fun _ _ h => absurd h (by omega)⟩, rfl⟩
  case round =>
    obtain ⟨i, rfl, hin, HN, rfl⟩ := hrel
    have t0 : (w.alloc (.cells #[.int .i64 t.f0, .int .i64 t.f1, .slice A2 t.f2.length c2, .slice A3 t.f3.length c3] 25)).cell? ⟨w.heap.size, 0, none⟩ = some (.int .i64 t.f0) := (blk_cell B0.out 0).trans rfl
    have t1 : (w.alloc (.cells #[.int .i64 t.f0, .int .i64 t.f1, .slice A2 t.f2.length c2, .slice A3 t.f3.length c3] 25)).cell? ⟨w.heap.size, 1, none⟩ = some (.int .i64 t.f1) := (blk_cell B0.out 1).trans rfl
    have t2 : (w.alloc (.cells #[.int .i64 t.f0, .int .i64 t.f1, .slice A2 t.f2.length c2, .slice A3 t.f3.length c3] 25)).cell? ⟨w.heap.size, 2, none⟩ = some (.slice A2 t.f2.length c2) := (blk_cell B0.out 2).trans rfl
    have t3 : (w.alloc (.cells #[.int .i64 t.f0, .int .i64 t.f1, .slice A2 t.f2.length c2, .slice A3 t.f3.length c3] 25)).cell? ⟨w.heap.size, 3, none⟩ = some (.slice A3 t.f3.length c3) := (blk_cell B0.out 3).trans rfl
    haveI := GW.of hB.out
    by_cases hi : i < ks.length
    · obtain ⟨ad, e, hc⟩ := (HK.out.below hB.out) i hi
      subst e
      have hlt : ((i : Int) < (ks.length : Int)) = True := by simp [hi]
      have hge : ((0 : Int) ≤ (i : Int)) = True := by simp
      by_cases hk : t.f0 = ks[i]
      · have hq : (t.f0 == ks[i]) = true := by simp [hk]
        have HI : Aside0 (inT ks t = brackB (showT t)) := ⟨by rw [inT_is, if_pos (by rw [hk]; exact List.getElem_mem hi)]⟩
        generalize ks[i] = kk at *
        clear hk
        go_wp2_with (go_at_call 38; refine holdT_ ?_)
        unfold HeldT
        refine (H.out A2 c2 A3 c3 _ (HR.out.below hB.out)).mono ?_
        rintro e w1 ⟨rfl, hb⟩
        have hs1 : (9223372036854775807 < 1 + (showT t).size) = False := eq_false (by omega)
        go_wp2
        go_ret
        exact ⟨by rw [HI.out]; rfl, below_step hB.out hb⟩
      · have hq : (t.f0 == ks[i]) = false := by simp [hk]
        have HN2 : Aside0 (∀ j (hj : j < ks.length), j < i + 1 → ks[j] ≠ t.f0) := ⟨fun j hj h => by
          rcases Nat.lt_or_ge j i with q | q
          · exact HN.out j hj q
          · obtain rfl : j = i := by omega
            exact fun e => hk e.symm⟩
        generalize ks[i] = kk at *
        clear hk
        go_wp2
        go_roundw
        case measure => simp [RowKit.intOf]; omega
        case rel => exact ⟨i + 1, by go_num, hi, HN2, trivial⟩
    · have hlt : ((i : Int) < (ks.length : Int)) = False := by simp; omega
      have HI : Aside0 (inT ks t = showT t) := ⟨by
        rw [inT_is, if_neg]
        intro hm
        obtain ⟨j, hj, e⟩ := List.mem_iff_getElem.1 hm
        exact HN.out j hj (by omega) e⟩
      go_wp2_with (go_at_call 38; refine holdT_ ?_)
      unfold HeldT
      refine (H.out A2 c2 A3 c3 _ (HR.out.below hB.out)).mono ?_
      rintro e w1 ⟨rfl, hb⟩
      go_wp2
      go_ret
      exact ⟨by rw [HI.out]; rfl, below_step hB.out hb⟩
end Go.Proofs.YtjcajpkgamolkaaDoor.Ty
namespace Go.Proofs.YtjcajpkgamolkaaDoor.Ty
open Go.RowKit Go.Proofs.YtjcajpkgamolkaaDoor.PTyp Go.Proofs.YtjcajpkgamolkaaDoorW.PrintWords Go.Proofs.YtjcajpkgamolkaaDoorW.PrintLast Go.Proofs.YtjcajpkgamolkaaDoorW.PrintMore
set_option linter.unusedVariables false
set_option linter.unusedSimpArgs false
set_option maxHeartbeats 1000000 in
set_option maxRecDepth 100000 in
theorem shown_calls (l : List Ty) (hn : l.length ≤ 1099511627776) (h : ∀ x ∈ l, ShowOk x) (hs : ∀ x ∈ l, (showT x).size ≤ 70368744177664) (ks : List Int) (hks : ks.length ≤ 2) (Ak : Option Addr) (ck : Nat) (A : Option Addr) (c : Nat) (w : World) [GW w] (hr : k25.C w A l.length l) (hk : KindsT w ks Ak) :
    Calls Tryd.prog 55 #[.slice A l.length c, .slice Ak ks.length ck] w fun e w' => ∃ v : Value, e = .returned v ∧ Kd.string.R 9 w' w.heap.size (fun _ => True) v (l.map (inT ks)) ∧ Below w.heap.size w w' := by
  have hu25 := Tryd.underlying25
  have H := Aside0.mk h
  have HS := Aside0.mk hs
  have HR := Aside0.mk hr
  have HK := Aside0.mk hk
  clear h hs hr hk
  go_enter Tryd.func55, Tryd.ntmps55
  go_wp2
  go_loopw [5, 10] (fun v5 v10 W => ∃ (i : Nat) (v : Value), v10 = .int .i64 i ∧ i ≤ l.length ∧ v5 = v ∧ Aside0 (Below w.heap.size w W) ∧ Aside0 (Kd.string.R 9 W w.heap.size (fun _ => True) v ((l.take i).map (inT ks)))) (fun _ v10 _ => l.length + 1 - (RowKit.intOf v10).toNat)
  case atStart => exact ⟨0, .slice none 0 0, rfl, Nat.zero_le _, rfl, ⟨Below.refl _ _⟩, ⟨by simpa using Kd.R_nil Kd.string 9 _ _ _⟩⟩
  case round =>
    obtain ⟨i, v, rfl, hin, rfl, HB, RP⟩ := hrel
    haveI := GW.of HB.out
    by_cases hi : i < l.length
    · obtain ⟨ad, A2, c2, A3, c3, e, q0, q1, q2, q3, rows⟩ := at_ty HR.out HB.out hi
      have ROWS := Aside0.mk rows
      have HSi := Aside0.mk (HS.out _ (List.getElem_mem hi))
      have Hi := Aside0.mk (H.out _ (List.getElem_mem hi))
      have HL : Aside0 ((l.take (i + 1)).map (inT ks) = (l.take i).map (inT ks) ++ [inT ks l[i]]) := ⟨by rw [List.take_succ_eq_append_getElem hi, List.map_append]; rfl⟩
      have HLn : Aside0 (((l.take i).map (inT ks)).length = i) := ⟨by simp; omega⟩
      clear rows
      generalize l[i] = t at *
      generalize (l.take i).map (inT ks) = P at *
      subst e
      obtain ⟨Av, cv, ev⟩ := Kd.R_slice RP.out
      subst ev
      have hbase : ∀ k, (Value.slice Av P.length cv).ownBlock = some k → w.heap.size ≤ k ∧ k < wr.heap.size := fun k hk => by
        have := (Kd.R_bound RP.out).1 k hk
        exact ⟨this.2.1, this.2.2.1⟩
      have hlt : ((i : Int) < (l.length : Int)) = True := by simp [hi]
      have hge : ((0 : Int) ≤ (i : Int)) = True := by simp
      go_wp2_with (go_at_call 54; refine holdT_ ?_)
      unfold HeldT
      have HBa := Aside0.mk (below_alloc HB.out (.cells #[.int .i64 t.f0, .int .i64 t.f1, .slice A2 t.f2.length c2, .slice A3 t.f3.length c3] 25))
      have RPa := Aside0.mk (Kd.R_alloc RP.out (.cells #[.int .i64 t.f0, .int .i64 t.f1, .slice A2 t.f2.length c2, .slice A3 t.f3.length c3] 25))
      refine (within_calls t Hi.out HSi.out ks hks Ak ck A2 A3 c2 c3 _ (ROWS.out.below HBa.out) (HK.out.below HBa.out)).mono ?_
      rintro e w1 ⟨rfl, hb⟩
      have nHB := Aside0.mk (below_step HBa.out hb)
      have nRP := Aside0.mk (Kd.R_below RPa.out hb)
      have hw1 := hb.size
      have hown2 : ∀ k, (Value.slice Av P.length cv).ownBlock = some k → w.heap.size ≤ k ∧ k < w1.heap.size := fun k hk => by
        have := (Kd.R_bound nRP.out).1 k hk
        exact ⟨this.2.1, this.2.2.1⟩
      clear HB RP HBa RPa hb q0 q1 q2 q3 hbase
      go_wp2_with ((with_reducible refine gate_dst (N := 19) rfl ?_); refine Kd.R_append Kd.string (w0 := w) w.heap.size rfl (.tmp 14) (.tmp 18) 22 9 (.string ⟨#[]⟩) 16 rfl Tryd.underlying22 info9 rfl (by decide) (by omega) (.slice Av P.length cv) P (inT ks t) [.string (inT ks t)] (fun _ => True) (fun _ => False) rfl rfl rfl (fun _ h => h.elim) (fun _ _ => trivial) nRP.out nHB.out nHB.out.size (by have := HLn.out; omega) ?_; intro v1 w4 ho hb4 hg hat; have nRO := Aside0.mk ho; have nHB4 := Aside0.mk hb4; clear ho hb4 hg hat)
      go_roundw
      case measure => simp [RowKit.intOf]; omega
      case rel => exact ⟨i + 1, v1, by go_num, hi, rfl, nHB4, ⟨by rw [HL.out]; exact nRO.out⟩⟩
    · obtain rfl : i = l.length := by omega
      have hlt : ((l.length : Int) < (l.length : Int)) = False := by simp
      have HRP : Aside0 (Kd.string.R 9 wr w.heap.size (fun _ => True) u5 (l.map (inT ks))) := ⟨by have := RP.out; rwa [List.take_length] at this⟩
      go_wp2
      go_ret
      exact ⟨u5, rfl, HRP.out, HB.out⟩
end Go.Proofs.YtjcajpkgamolkaaDoor.Ty
namespace Go.Proofs.YtjcajpkgamolkaaDoor.Ty
open Go.RowKit Go.Proofs.YtjcajpkgamolkaaDoor.PTyp Go.Proofs.YtjcajpkgamolkaaDoorW.PrintWords Go.Proofs.YtjcajpkgamolkaaDoorW.PrintLast Go.Proofs.YtjcajpkgamolkaaDoorW.PrintMore
set_option linter.unusedVariables false
set_option linter.unusedSimpArgs false
abbrev agT (k n : Int) (A2 : Option Addr) (m2 c2 : Nat) (A3 : Option Addr) (m3 c3 : Nat) : Value := .agg #[.int .i64 k, .int .i64 n, .slice A2 m2 c2, .slice A3 m3 c3]
theorem itoa_calls (a0 : Int) (h : -9223372036854775808 ≤ a0 ∧ a0 ≤ 9223372036854775807) (w : World) [GW w] : Calls Tryd.prog 57 #[.int .i64 a0] w fun e w' => e = .returned (.string (itoaB a0)) ∧ Below w.heap.size w w' := by
  refine (Tryd.strconv_Itoa a0 h.1 h.2 w GW.p10).mono ?_
  rintro e w' ⟨rfl, n, os, rfl⟩
  exact ⟨rfl, Lib.below_grow _ w (Nat.le_refl _) n os⟩
theorem join_calls (A0 : Option Addr) (c0 : Nat) (l0 : List ByteArray) (a1 : ByteArray) (w : World) (hr0 : Kd.C Kd.string w A0 l0.length l0) (hc0 : l0.length ≤ c0) (h1 : l0.length ≤ 140737488355328) (h2 : (joinB l0 a1).size ≤ 140737488355328) :
    Calls Tryd.prog 56 #[.slice A0 l0.length c0, .string a1] w fun e w' => e = .returned (.string (joinB l0 a1)) ∧ Below w.heap.size w w' := by
  rcases Nat.eq_zero_or_pos l0.length with hz | hp
  · obtain rfl := List.eq_nil_of_length_eq_zero hz
    refine (Tryd.strings_Join_none A0 c0 a1 w).mono ?_
    rintro e w' ⟨rfl, rfl⟩
    refine ⟨?_, Below.refl _ _⟩
    simp [joinB, Lib.join]
  · obtain ⟨_, _, hg⟩ := hr0
    obtain ⟨ad, rfl, hcell⟩ := hg hp
    have hat : ∀ (j : Nat) x, l0[j]? = some x → w.cell? (ad.add j) = some (.string x) := fun j x hj => by
      obtain ⟨c, hl, hK, hu⟩ := hcell j x hj
      have hK' : c = [Value.string x] := hK
      subst hK'
      have := hu 0 (.string x) rfl
      simpa [show (Kd.string).sz = 1 from rfl] using this
    obtain ⟨x0, hx0⟩ : ∃ x, l0[0]? = some x := ⟨_, List.getElem?_eq_getElem hp⟩
    have h00 := hat 0 x0 hx0
    obtain ⟨bk, o, sp⟩ := ad
    have hsp : sp = none := by
      cases sp with
      | none => rfl
      | some s => simp [World.cell?, Addr.add] at h00; split at h00 <;> simp at h00
    subst hsp
    have hadd : ∀ j, (⟨bk, o, none⟩ : Addr).add j = ⟨bk, o + j, none⟩ := fun j => by unfold Addr.add; split <;> simp_all
    refine (Tryd.strings_Join bk o c0 l0 a1 w (fun j x hj => by rw [← hadd]; exact hat j x hj) (World.block_lt_of_cell? w _ h00) h1 hc0 h2).mono ?_
    rintro e w' ⟨rfl, hb⟩
    exact ⟨rfl, hb⟩
set_option maxHeartbeats 400000 in
set_option maxRecDepth 100000 in
theorem show_word1 (A2 A3 : Option Addr) (c2 c3 : Nat) (w : World) [GW w] : Calls Tryd.prog 38 #[agT 1 0 A2 0 c2 A3 0 c3] w fun e w' => e = .returned (.string (showT ⟨1, 0, [], []⟩)) ∧ Below w.heap.size w w' := by
  have hu25 := Tryd.underlying25
  have hB := Aside0.mk (below_alloc (Below.refl w.heap.size w) (.cells #[.int .i64 1, .int .i64 0, .slice A2 0 c2, .slice A3 0 c3] 25))
  have B0 := Aside0.mk (heap_alloc_new w (.cells #[.int .i64 1, .int .i64 0, .slice A2 0 c2, .slice A3 0 c3] 25))
  have t0 : (w.alloc (.cells #[.int .i64 1, .int .i64 0, .slice A2 0 c2, .slice A3 0 c3] 25)).cell? ⟨w.heap.size, 0, none⟩ = some (.int .i64 1) := (blk_cell B0.out 0).trans rfl
  have t1 : (w.alloc (.cells #[.int .i64 1, .int .i64 0, .slice A2 0 c2, .slice A3 0 c3] 25)).cell? ⟨w.heap.size, 1, none⟩ = some (.int .i64 0) := (blk_cell B0.out 1).trans rfl
  have t2 : (w.alloc (.cells #[.int .i64 1, .int .i64 0, .slice A2 0 c2, .slice A3 0 c3] 25)).cell? ⟨w.heap.size, 2, none⟩ = some (.slice A2 0 c2) := (blk_cell B0.out 2).trans rfl
  have t3 : (w.alloc (.cells #[.int .i64 1, .int .i64 0, .slice A2 0 c2, .slice A3 0 c3] 25)).cell? ⟨w.heap.size, 3, none⟩ = some (.slice A3 0 c3) := (blk_cell B0.out 3).trans rfl
  haveI := GW.of hB.out
  go_enter Tryd.func38, Tryd.ntmps38
  go_wp2
  go_ret
  exact ⟨rfl, below_alloc hB.out _⟩
set_option maxHeartbeats 400000 in
set_option maxRecDepth 100000 in
theorem show_word2 (A2 A3 : Option Addr) (c2 c3 : Nat) (w : World) [GW w] : Calls Tryd.prog 38 #[agT 2 0 A2 0 c2 A3 0 c3] w fun e w' => e = .returned (.string (showT ⟨2, 0, [], []⟩)) ∧ Below w.heap.size w w' := by
  have hu25 := Tryd.underlying25
  have hB := Aside0.mk (below_alloc (Below.refl w.heap.size w) (.cells #[.int .i64 2, .int .i64 0, .slice A2 0 c2, .slice A3 0 c3] 25))
  have B0 := Aside0.mk (heap_alloc_new w (.cells #[.int .i64 2, .int .i64 0, .slice A2 0 c2, .slice A3 0 c3] 25))
  have t0 : (w.alloc (.cells #[.int .i64 2, .int .i64 0, .slice A2 0 c2, .slice A3 0 c3] 25)).cell? ⟨w.heap.size, 0, none⟩ = some (.int .i64 2) := (blk_cell B0.out 0).trans rfl
  have t1 : (w.alloc (.cells #[.int .i64 2, .int .i64 0, .slice A2 0 c2, .slice A3 0 c3] 25)).cell? ⟨w.heap.size, 1, none⟩ = some (.int .i64 0) := (blk_cell B0.out 1).trans rfl
  have t2 : (w.alloc (.cells #[.int .i64 2, .int .i64 0, .slice A2 0 c2, .slice A3 0 c3] 25)).cell? ⟨w.heap.size, 2, none⟩ = some (.slice A2 0 c2) := (blk_cell B0.out 2).trans rfl
  have t3 : (w.alloc (.cells #[.int .i64 2, .int .i64 0, .slice A2 0 c2, .slice A3 0 c3] 25)).cell? ⟨w.heap.size, 3, none⟩ = some (.slice A3 0 c3) := (blk_cell B0.out 3).trans rfl
  haveI := GW.of hB.out
  go_enter Tryd.func38, Tryd.ntmps38
  go_wp2
  go_ret
  exact ⟨rfl, below_alloc hB.out _⟩
set_option maxHeartbeats 400000 in
set_option maxRecDepth 100000 in
theorem show_word3 (A2 A3 : Option Addr) (c2 c3 : Nat) (w : World) [GW w] : Calls Tryd.prog 38 #[agT 3 0 A2 0 c2 A3 0 c3] w fun e w' => e = .returned (.string (showT ⟨3, 0, [], []⟩)) ∧ Below w.heap.size w w' := by
  have hu25 := Tryd.underlying25
  have hB := Aside0.mk (below_alloc (Below.refl w.heap.size w) (.cells #[.int .i64 3, .int .i64 0, .slice A2 0 c2, .slice A3 0 c3] 25))
  have B0 := Aside0.mk (heap_alloc_new w (.cells #[.int .i64 3, .int .i64 0, .slice A2 0 c2, .slice A3 0 c3] 25))
  have t0 : (w.alloc (.cells #[.int .i64 3, .int .i64 0, .slice A2 0 c2, .slice A3 0 c3] 25)).cell? ⟨w.heap.size, 0, none⟩ = some (.int .i64 3) := (blk_cell B0.out 0).trans rfl
  have t1 : (w.alloc (.cells #[.int .i64 3, .int .i64 0, .slice A2 0 c2, .slice A3 0 c3] 25)).cell? ⟨w.heap.size, 1, none⟩ = some (.int .i64 0) := (blk_cell B0.out 1).trans rfl
  have t2 : (w.alloc (.cells #[.int .i64 3, .int .i64 0, .slice A2 0 c2, .slice A3 0 c3] 25)).cell? ⟨w.heap.size, 2, none⟩ = some (.slice A2 0 c2) := (blk_cell B0.out 2).trans rfl
  have t3 : (w.alloc (.cells #[.int .i64 3, .int .i64 0, .slice A2 0 c2, .slice A3 0 c3] 25)).cell? ⟨w.heap.size, 3, none⟩ = some (.slice A3 0 c3) := (blk_cell B0.out 3).trans rfl
  haveI := GW.of hB.out
  go_enter Tryd.func38, Tryd.ntmps38
  go_wp2
  go_ret
  exact ⟨rfl, below_alloc hB.out _⟩
set_option maxHeartbeats 400000 in
set_option maxRecDepth 100000 in
theorem show_word4 (A2 A3 : Option Addr) (c2 c3 : Nat) (w : World) [GW w] : Calls Tryd.prog 38 #[agT 4 0 A2 0 c2 A3 0 c3] w fun e w' => e = .returned (.string (showT ⟨4, 0, [], []⟩)) ∧ Below w.heap.size w w' := by
  have hu25 := Tryd.underlying25
  have hB := Aside0.mk (below_alloc (Below.refl w.heap.size w) (.cells #[.int .i64 4, .int .i64 0, .slice A2 0 c2, .slice A3 0 c3] 25))
  have B0 := Aside0.mk (heap_alloc_new w (.cells #[.int .i64 4, .int .i64 0, .slice A2 0 c2, .slice A3 0 c3] 25))
  have t0 : (w.alloc (.cells #[.int .i64 4, .int .i64 0, .slice A2 0 c2, .slice A3 0 c3] 25)).cell? ⟨w.heap.size, 0, none⟩ = some (.int .i64 4) := (blk_cell B0.out 0).trans rfl
  have t1 : (w.alloc (.cells #[.int .i64 4, .int .i64 0, .slice A2 0 c2, .slice A3 0 c3] 25)).cell? ⟨w.heap.size, 1, none⟩ = some (.int .i64 0) := (blk_cell B0.out 1).trans rfl
  have t2 : (w.alloc (.cells #[.int .i64 4, .int .i64 0, .slice A2 0 c2, .slice A3 0 c3] 25)).cell? ⟨w.heap.size, 2, none⟩ = some (.slice A2 0 c2) := (blk_cell B0.out 2).trans rfl
  have t3 : (w.alloc (.cells #[.int .i64 4, .int .i64 0, .slice A2 0 c2, .slice A3 0 c3] 25)).cell? ⟨w.heap.size, 3, none⟩ = some (.slice A3 0 c3) := (blk_cell B0.out 3).trans rfl
  haveI := GW.of hB.out
  go_enter Tryd.func38, Tryd.ntmps38
  go_wp2
  go_ret
  exact ⟨rfl, below_alloc hB.out _⟩
set_option maxHeartbeats 400000 in
set_option maxRecDepth 100000 in
theorem show_word5 (A2 A3 : Option Addr) (c2 c3 : Nat) (w : World) [GW w] : Calls Tryd.prog 38 #[agT 5 0 A2 0 c2 A3 0 c3] w fun e w' => e = .returned (.string (showT ⟨5, 0, [], []⟩)) ∧ Below w.heap.size w w' := by
  have hu25 := Tryd.underlying25
  have hB := Aside0.mk (below_alloc (Below.refl w.heap.size w) (.cells #[.int .i64 5, .int .i64 0, .slice A2 0 c2, .slice A3 0 c3] 25))
  have B0 := Aside0.mk (heap_alloc_new w (.cells #[.int .i64 5, .int .i64 0, .slice A2 0 c2, .slice A3 0 c3] 25))
  have t0 : (w.alloc (.cells #[.int .i64 5, .int .i64 0, .slice A2 0 c2, .slice A3 0 c3] 25)).cell? ⟨w.heap.size, 0, none⟩ = some (.int .i64 5) := (blk_cell B0.out 0).trans rfl
  have t1 : (w.alloc (.cells #[.int .i64 5, .int .i64 0, .slice A2 0 c2, .slice A3 0 c3] 25)).cell? ⟨w.heap.size, 1, none⟩ = some (.int .i64 0) := (blk_cell B0.out 1).trans rfl
  have t2 : (w.alloc (.cells #[.int .i64 5, .int .i64 0, .slice A2 0 c2, .slice A3 0 c3] 25)).cell? ⟨w.heap.size, 2, none⟩ = some (.slice A2 0 c2) := (blk_cell B0.out 2).trans rfl
  have t3 : (w.alloc (.cells #[.int .i64 5, .int .i64 0, .slice A2 0 c2, .slice A3 0 c3] 25)).cell? ⟨w.heap.size, 3, none⟩ = some (.slice A3 0 c3) := (blk_cell B0.out 3).trans rfl
  haveI := GW.of hB.out
  go_enter Tryd.func38, Tryd.ntmps38
  go_wp2
  go_ret
  exact ⟨rfl, below_alloc hB.out _⟩
set_option maxHeartbeats 400000 in
set_option maxRecDepth 100000 in
theorem show_word6 (A2 A3 : Option Addr) (c2 c3 : Nat) (w : World) [GW w] : Calls Tryd.prog 38 #[agT 6 0 A2 0 c2 A3 0 c3] w fun e w' => e = .returned (.string (showT ⟨6, 0, [], []⟩)) ∧ Below w.heap.size w w' := by
  have hu25 := Tryd.underlying25
  have hB := Aside0.mk (below_alloc (Below.refl w.heap.size w) (.cells #[.int .i64 6, .int .i64 0, .slice A2 0 c2, .slice A3 0 c3] 25))
  have B0 := Aside0.mk (heap_alloc_new w (.cells #[.int .i64 6, .int .i64 0, .slice A2 0 c2, .slice A3 0 c3] 25))
  have t0 : (w.alloc (.cells #[.int .i64 6, .int .i64 0, .slice A2 0 c2, .slice A3 0 c3] 25)).cell? ⟨w.heap.size, 0, none⟩ = some (.int .i64 6) := (blk_cell B0.out 0).trans rfl
  have t1 : (w.alloc (.cells #[.int .i64 6, .int .i64 0, .slice A2 0 c2, .slice A3 0 c3] 25)).cell? ⟨w.heap.size, 1, none⟩ = some (.int .i64 0) := (blk_cell B0.out 1).trans rfl
  have t2 : (w.alloc (.cells #[.int .i64 6, .int .i64 0, .slice A2 0 c2, .slice A3 0 c3] 25)).cell? ⟨w.heap.size, 2, none⟩ = some (.slice A2 0 c2) := (blk_cell B0.out 2).trans rfl
  have t3 : (w.alloc (.cells #[.int .i64 6, .int .i64 0, .slice A2 0 c2, .slice A3 0 c3] 25)).cell? ⟨w.heap.size, 3, none⟩ = some (.slice A3 0 c3) := (blk_cell B0.out 3).trans rfl
  haveI := GW.of hB.out
  go_enter Tryd.func38, Tryd.ntmps38
  go_wp2
  go_ret
  exact ⟨rfl, below_alloc hB.out _⟩
set_option maxHeartbeats 400000 in
set_option maxRecDepth 100000 in
theorem show_ref11 (n : Int) (hn : -9223372036854775808 ≤ n ∧ n ≤ 9223372036854775807) (A2 A3 : Option Addr) (c2 c3 : Nat) (w : World) [GW w] : Calls Tryd.prog 38 #[agT 11 n A2 0 c2 A3 0 c3] w fun e w' => e = .returned (.string (showT ⟨11, n, [], []⟩)) ∧ Below w.heap.size w w' := by
  have hu25 := Tryd.underlying25
  have hB := Aside0.mk (below_alloc (Below.refl w.heap.size w) (.cells #[.int .i64 11, .int .i64 n, .slice A2 0 c2, .slice A3 0 c3] 25))
  have B0 := Aside0.mk (heap_alloc_new w (.cells #[.int .i64 11, .int .i64 n, .slice A2 0 c2, .slice A3 0 c3] 25))
  have t0 : (w.alloc (.cells #[.int .i64 11, .int .i64 n, .slice A2 0 c2, .slice A3 0 c3] 25)).cell? ⟨w.heap.size, 0, none⟩ = some (.int .i64 11) := (blk_cell B0.out 0).trans rfl
  have t1 : (w.alloc (.cells #[.int .i64 11, .int .i64 n, .slice A2 0 c2, .slice A3 0 c3] 25)).cell? ⟨w.heap.size, 1, none⟩ = some (.int .i64 n) := (blk_cell B0.out 1).trans rfl
  have t2 : (w.alloc (.cells #[.int .i64 11, .int .i64 n, .slice A2 0 c2, .slice A3 0 c3] 25)).cell? ⟨w.heap.size, 2, none⟩ = some (.slice A2 0 c2) := (blk_cell B0.out 2).trans rfl
  have t3 : (w.alloc (.cells #[.int .i64 11, .int .i64 n, .slice A2 0 c2, .slice A3 0 c3] 25)).cell? ⟨w.heap.size, 3, none⟩ = some (.slice A3 0 c3) := (blk_cell B0.out 3).trans rfl
  haveI := GW.of hB.out
  have hz := itoaB_size n hn
  go_enter Tryd.func38, Tryd.ntmps38
  go_wp2_with (go_at_call 57; refine holdT_ ?_)
  unfold HeldT
  refine (itoa_calls n hn _).mono ?_
  rintro e w1 ⟨rfl, hb⟩
  have hs1 : (9223372036854775807 < 5 + (itoaB n).size) = False := eq_false (by omega)
  go_wp2
  go_ret
  exact ⟨rfl, below_step hB.out hb⟩
set_option maxHeartbeats 400000 in
set_option maxRecDepth 100000 in
theorem show_ref12 (n : Int) (hn : -9223372036854775808 ≤ n ∧ n ≤ 9223372036854775807) (A2 A3 : Option Addr) (c2 c3 : Nat) (w : World) [GW w] : Calls Tryd.prog 38 #[agT 12 n A2 0 c2 A3 0 c3] w fun e w' => e = .returned (.string (showT ⟨12, n, [], []⟩)) ∧ Below w.heap.size w w' := by
  have hu25 := Tryd.underlying25
  have hB := Aside0.mk (below_alloc (Below.refl w.heap.size w) (.cells #[.int .i64 12, .int .i64 n, .slice A2 0 c2, .slice A3 0 c3] 25))
  have B0 := Aside0.mk (heap_alloc_new w (.cells #[.int .i64 12, .int .i64 n, .slice A2 0 c2, .slice A3 0 c3] 25))
  have t0 : (w.alloc (.cells #[.int .i64 12, .int .i64 n, .slice A2 0 c2, .slice A3 0 c3] 25)).cell? ⟨w.heap.size, 0, none⟩ = some (.int .i64 12) := (blk_cell B0.out 0).trans rfl
  have t1 : (w.alloc (.cells #[.int .i64 12, .int .i64 n, .slice A2 0 c2, .slice A3 0 c3] 25)).cell? ⟨w.heap.size, 1, none⟩ = some (.int .i64 n) := (blk_cell B0.out 1).trans rfl
  have t2 : (w.alloc (.cells #[.int .i64 12, .int .i64 n, .slice A2 0 c2, .slice A3 0 c3] 25)).cell? ⟨w.heap.size, 2, none⟩ = some (.slice A2 0 c2) := (blk_cell B0.out 2).trans rfl
  have t3 : (w.alloc (.cells #[.int .i64 12, .int .i64 n, .slice A2 0 c2, .slice A3 0 c3] 25)).cell? ⟨w.heap.size, 3, none⟩ = some (.slice A3 0 c3) := (blk_cell B0.out 3).trans rfl
  haveI := GW.of hB.out
  have hz := itoaB_size n hn
  go_enter Tryd.func38, Tryd.ntmps38
  go_wp2_with (go_at_call 57; refine holdT_ ?_)
  unfold HeldT
  refine (itoa_calls n hn _).mono ?_
  rintro e w1 ⟨rfl, hb⟩
  have hs1 : (9223372036854775807 < 6 + (itoaB n).size) = False := eq_false (by omega)
  go_wp2
  go_ret
  exact ⟨rfl, below_step hB.out hb⟩
set_option maxHeartbeats 400000 in
set_option maxRecDepth 100000 in
theorem show_ref13 (n : Int) (hn : -9223372036854775808 ≤ n ∧ n ≤ 9223372036854775807) (A2 A3 : Option Addr) (c2 c3 : Nat) (w : World) [GW w] : Calls Tryd.prog 38 #[agT 13 n A2 0 c2 A3 0 c3] w fun e w' => e = .returned (.string (showT ⟨13, n, [], []⟩)) ∧ Below w.heap.size w w' := by
  have hu25 := Tryd.underlying25
  have hB := Aside0.mk (below_alloc (Below.refl w.heap.size w) (.cells #[.int .i64 13, .int .i64 n, .slice A2 0 c2, .slice A3 0 c3] 25))
  have B0 := Aside0.mk (heap_alloc_new w (.cells #[.int .i64 13, .int .i64 n, .slice A2 0 c2, .slice A3 0 c3] 25))
  have t0 : (w.alloc (.cells #[.int .i64 13, .int .i64 n, .slice A2 0 c2, .slice A3 0 c3] 25)).cell? ⟨w.heap.size, 0, none⟩ = some (.int .i64 13) := (blk_cell B0.out 0).trans rfl
  have t1 : (w.alloc (.cells #[.int .i64 13, .int .i64 n, .slice A2 0 c2, .slice A3 0 c3] 25)).cell? ⟨w.heap.size, 1, none⟩ = some (.int .i64 n) := (blk_cell B0.out 1).trans rfl
  have t2 : (w.alloc (.cells #[.int .i64 13, .int .i64 n, .slice A2 0 c2, .slice A3 0 c3] 25)).cell? ⟨w.heap.size, 2, none⟩ = some (.slice A2 0 c2) := (blk_cell B0.out 2).trans rfl
  have t3 : (w.alloc (.cells #[.int .i64 13, .int .i64 n, .slice A2 0 c2, .slice A3 0 c3] 25)).cell? ⟨w.heap.size, 3, none⟩ = some (.slice A3 0 c3) := (blk_cell B0.out 3).trans rfl
  haveI := GW.of hB.out
  have hz := itoaB_size n hn
  go_enter Tryd.func38, Tryd.ntmps38
  go_wp2_with (go_at_call 57; refine holdT_ ?_)
  unfold HeldT
  refine (itoa_calls n hn _).mono ?_
  rintro e w1 ⟨rfl, hb⟩
  have hs1 : (9223372036854775807 < 6 + (itoaB n).size) = False := eq_false (by omega)
  go_wp2
  go_ret
  exact ⟨rfl, below_step hB.out hb⟩
theorem box4T {W : World} {b : Nat} {t : TypeId} {x y z u : Value} (h : W.heap[b]? = some (.cells #[x, y, z, u] t (0, 0))) : (W.cell? ⟨b, 0, none⟩ = some x ∧ W.cell? ⟨b, 1, none⟩ = some y ∧ W.cell? ⟨b, 2, none⟩ = some z ∧ W.cell? ⟨b, 3, none⟩ = some u) ∧ True :=
  ⟨⟨(blk_cell h 0).trans rfl, (blk_cell h 1).trans rfl, (blk_cell h 2).trans rfl, (blk_cell h 3).trans rfl⟩, trivial⟩
theorem add0 (a : Addr) : a.add (0 * 4) = a := by obtain ⟨b, o, s⟩ := a; cases s <;> simp [Addr.add]
theorem kinds0 (W : World) : KindsT W [] none := fun j h => by simp at h
theorem kinds1 (W : World) (a : Int) {g : Nat} (hg : W.heap.size = g) : KindsT (W.alloc (.cells #[.int .i64 a] 3)) [a] (some ⟨g, 0, none⟩) := fun j h => by
  subst hg
  obtain rfl : j = 0 := by simpa using h
  exact ⟨_, rfl, (blk_cell (heap_alloc_new W (.cells #[.int .i64 a] 3)) 0).trans rfl⟩
theorem kinds2 (W : World) (a b : Int) {g : Nat} (hg : W.heap.size = g) : KindsT (W.alloc (.cells #[.int .i64 a, .int .i64 b] 3)) [a, b] (some ⟨g, 0, none⟩) := fun j h => by
  subst hg
  have h2 : j = 0 ∨ j = 1 := by simp at h; omega
  rcases h2 with rfl | rfl
  · exact ⟨_, rfl, (blk_cell (heap_alloc_new W (.cells #[.int .i64 a, .int .i64 b] 3)) 0).trans rfl⟩
  · exact ⟨_, rfl, (blk_cell (heap_alloc_new W (.cells #[.int .i64 a, .int .i64 b] 3)) 1).trans rfl⟩
theorem at_s {W : World} {A : Option Addr} {xs : List ByteArray} (h : Kd.string.C W A xs.length xs) {i : Nat} (hi : i < xs.length) : ∃ ad, A = some ad ∧ W.cell? (ad.add i) = some (.string xs[i]) := by
  obtain ⟨_, _, hg⟩ := h
  obtain ⟨ad, e, hcell⟩ := hg (by omega)
  obtain ⟨c, hl, hK, hu⟩ := hcell i _ (List.getElem?_eq_getElem hi)
  have hK' : c = [Value.string xs[i]] := hK
  subst hK'
  have := hu 0 (.string xs[i]) rfl
  exact ⟨ad, e, by simpa [show (Kd.string).sz = 1 from rfl] using this⟩
set_option maxHeartbeats 400000 in
set_option maxRecDepth 100000 in
theorem show_list (y : Ty) (H : ShowOk y) (hs : (showT y).size ≤ 70368744177664) (A2 A3 : Option Addr) (m2 c2 c3 : Nat) (ns : List ByteArray) (w : World) [GW w] (hr : k25.C w A3 1 [y]) : Calls Tryd.prog 38 #[agT 7 0 A2 m2 c2 A3 1 c3] w fun e w' => e = .returned (.string (showT ⟨7, 0, ns, [y]⟩)) ∧ Below w.heap.size w w' := by
  have hu25 := Tryd.underlying25
  have hB := Aside0.mk (below_alloc (Below.refl w.heap.size w) (.cells #[.int .i64 7, .int .i64 0, .slice A2 m2 c2, .slice A3 1 c3] 25))
  have B0 := Aside0.mk (heap_alloc_new w (.cells #[.int .i64 7, .int .i64 0, .slice A2 m2 c2, .slice A3 1 c3] 25))
  have t0 : (w.alloc (.cells #[.int .i64 7, .int .i64 0, .slice A2 m2 c2, .slice A3 1 c3] 25)).cell? ⟨w.heap.size, 0, none⟩ = some (.int .i64 7) := (blk_cell B0.out 0).trans rfl
  have t1 : (w.alloc (.cells #[.int .i64 7, .int .i64 0, .slice A2 m2 c2, .slice A3 1 c3] 25)).cell? ⟨w.heap.size, 1, none⟩ = some (.int .i64 0) := (blk_cell B0.out 1).trans rfl
  have t2 : (w.alloc (.cells #[.int .i64 7, .int .i64 0, .slice A2 m2 c2, .slice A3 1 c3] 25)).cell? ⟨w.heap.size, 2, none⟩ = some (.slice A2 m2 c2) := (blk_cell B0.out 2).trans rfl
  have t3 : (w.alloc (.cells #[.int .i64 7, .int .i64 0, .slice A2 m2 c2, .slice A3 1 c3] 25)).cell? ⟨w.heap.size, 3, none⟩ = some (.slice A3 1 c3) := (blk_cell B0.out 3).trans rfl
  haveI := GW.of hB.out
  have HT : Aside0 (showT ⟨7, 0, ns, [y]⟩ = inT [10, 9] y ++ ⟨#[91, 93]⟩) := ⟨by rw [showT_is]; rfl⟩
  have hz : (inT [10, 9] y).size ≤ (showT y).size + 2 := withinB_size _ _
  obtain ⟨ad, B2, d2, B3, d3, e, q0, q1, q2, q3, rows⟩ := at_ty (l := [y]) hr hB.out (show 0 < [y].length by simp)
  subst e
  have ROWS := Aside0.mk rows
  clear rows hr
  rw [add0] at q0 q1 q2 q3
  simp only [List.getElem_cons_zero] at q0 q1 q2 q3 ROWS
  go_enter Tryd.func38, Tryd.ntmps38
  go_wp2_with (go_at_call 54; refine holdT_ ?_)
  unfold HeldT
  have hB2 := Aside0.mk (below_alloc hB.out (.cells #[.int .i64 10, .int .i64 9] 3))
  haveI := GW.of hB2.out
  refine (within_calls y H hs [10, 9] (by decide) _ 2 B2 B3 d2 d3 _ (ROWS.out.below hB2.out) (kinds2 _ 10 9 (by simp))).mono ?_
  rintro e w1 ⟨rfl, hb⟩
  have hs1 : (9223372036854775807 < (inT [10, 9] y).size + 2) = False := eq_false (by omega)
  go_wp2
  go_ret
  exact ⟨by rw [HT.out]; rfl, below_step hB2.out hb⟩
set_option maxHeartbeats 400000 in
set_option maxRecDepth 100000 in
theorem show_either (l : List Ty) (H : ∀ y ∈ l, ShowOk y) (hs : ∀ y ∈ l, (showT y).size ≤ 70368744177664) (hn : l.length ≤ 1099511627776) (A2 A3 : Option Addr) (m2 c2 c3 : Nat) (ns : List ByteArray) (hR : (showT ⟨10, 0, ns, l⟩).size ≤ 70368744177664) (w : World) [GW w] (hr : k25.C w A3 l.length l) : Calls Tryd.prog 38 #[agT 10 0 A2 m2 c2 A3 l.length c3] w fun e w' => e = .returned (.string (showT ⟨10, 0, ns, l⟩)) ∧ Below w.heap.size w w' := by
  have hu25 := Tryd.underlying25
  have hB := Aside0.mk (below_alloc (Below.refl w.heap.size w) (.cells #[.int .i64 10, .int .i64 0, .slice A2 m2 c2, .slice A3 l.length c3] 25))
  have B0 := Aside0.mk (heap_alloc_new w (.cells #[.int .i64 10, .int .i64 0, .slice A2 m2 c2, .slice A3 l.length c3] 25))
  have t0 : (w.alloc (.cells #[.int .i64 10, .int .i64 0, .slice A2 m2 c2, .slice A3 l.length c3] 25)).cell? ⟨w.heap.size, 0, none⟩ = some (.int .i64 10) := (blk_cell B0.out 0).trans rfl
  have t1 : (w.alloc (.cells #[.int .i64 10, .int .i64 0, .slice A2 m2 c2, .slice A3 l.length c3] 25)).cell? ⟨w.heap.size, 1, none⟩ = some (.int .i64 0) := (blk_cell B0.out 1).trans rfl
  have t2 : (w.alloc (.cells #[.int .i64 10, .int .i64 0, .slice A2 m2 c2, .slice A3 l.length c3] 25)).cell? ⟨w.heap.size, 2, none⟩ = some (.slice A2 m2 c2) := (blk_cell B0.out 2).trans rfl
  have t3 : (w.alloc (.cells #[.int .i64 10, .int .i64 0, .slice A2 m2 c2, .slice A3 l.length c3] 25)).cell? ⟨w.heap.size, 3, none⟩ = some (.slice A3 l.length c3) := (blk_cell B0.out 3).trans rfl
  haveI := GW.of hB.out
  have HT : Aside0 (showT ⟨10, 0, ns, l⟩ = joinB (l.map (inT [9])) ⟨#[32, 124, 32]⟩) := ⟨by rw [showT_is]; unfold showK; rw [if_neg (by simp), if_neg (by simp), if_neg (by simp), if_pos (by simp), List.map_map]; rfl⟩
  have HRR := Aside0.mk hr
  have HS := Aside0.mk hs
  have HH := Aside0.mk H
  clear hr hs H
  go_enter Tryd.func38, Tryd.ntmps38
  go_wp2_with (go_at_call 55; refine holdT_ ?_)
  unfold HeldT
  have hB2 := Aside0.mk (below_alloc hB.out (.cells #[.int .i64 9] 3))
  haveI := GW.of hB2.out
  refine (shown_calls l hn HH.out HS.out [9] (by decide) _ 1 A3 c3 _ (Kd.C_below HRR.out hB2.out) (kinds1 _ 9 (by simp))).mono ?_
  rintro e w1 ⟨v, rfl, hRv, hb⟩
  obtain ⟨Av, cv, ev⟩ := Kd.R_slice hRv
  subst ev
  have HB1 := Aside0.mk (below_step hB2.out hb)
  have HLn : Aside0 ((l.map (inT [9])).length = l.length) := ⟨by simp⟩
  have HRs : Aside0 ((joinB (l.map (inT [9])) ⟨#[32, 124, 32]⟩).size ≤ 70368744177664) := ⟨by rw [← HT.out]; exact hR⟩
  obtain ⟨_, _, ev, hc, hC⟩ := Kd.R_reads hRv
  injection ev with e1 _ e2
  subst e1
  subst e2
  have HC := Aside0.mk hC
  clear hRv hC
  generalize l.map (inT [9]) = xs at *
  go_wp2_with (go_at_call 56; refine holdT_ ?_)
  unfold HeldT
  refine (join_calls Av cv xs ⟨#[32, 124, 32]⟩ _ HC.out hc (by have := HLn.out; omega) (by have := HRs.out; omega)).mono ?_
  rintro e w2 ⟨rfl, hb2⟩
  go_wp2
  go_ret
  exact ⟨by rw [HT.out]; rfl, below_step HB1.out hb2⟩
theorem slots_next : ∀ (ns xs : List ByteArray) (i : Nat) (h1 : i < ns.length) (h2 : i < xs.length), slotsB (ns.take (i + 1)) (xs.take (i + 1)) = slotsB (ns.take i) (xs.take i) ++ slotB ns[i] xs[i]
  | n :: ns, x :: xs, 0, _, _ => by
    simp only [List.take_succ_cons, List.take_zero, slotsB, List.getElem_cons_zero]
    show slotB n x ++ (⟨#[]⟩ : ByteArray) = (⟨#[]⟩ : ByteArray) ++ slotB n x
    rw [show (⟨#[]⟩ : ByteArray) = ByteArray.empty from rfl, ByteArray.append_empty, ByteArray.empty_append]
  | n :: ns, x :: xs, i + 1, h1, h2 => by
    have := slots_next ns xs i (by simpa using h1) (by simpa using h2)
    simp only [List.take_succ_cons, slotsB, List.getElem_cons_succ] at this ⊢
    rw [this, ByteArray.append_assoc]
  | [], _, _, h, _ => by simp at h
  | _ :: _, [], _, _, h => by simp at h
theorem sumS_take (xs : List ByteArray) (i : Nat) : sumS (xs.take i) ≤ sumS xs := by
  conv => rhs; rw [← List.take_append_drop i xs, sumS_append]
  omega
theorem sumB_append : ∀ a b : List ByteArray, sumB (a ++ b) = sumB a + sumB b
  | [], b => by simp [sumB]
  | x :: r, b => by rw [List.cons_append, sumB, sumB, sumB_append r b]; omega
theorem sumB_take (xs : List ByteArray) (i : Nat) : sumB (xs.take i) ≤ sumB xs := by
  conv => rhs; rw [← List.take_append_drop i xs, sumB_append]
  omega
theorem sumB_mem {l : List ByteArray} {x : ByteArray} (h : x ∈ l) : x.size ≤ sumB l := by
  induction l with
  | nil => cases h
  | cons a r ih =>
    simp only [sumB]
    rcases List.mem_cons.1 h with rfl | h
    · omega
    · have := ih h; omega
theorem sumS_mem {l : List ByteArray} {x : ByteArray} (h : x ∈ l) : x.size ≤ sumS l := by
  induction l with
  | nil => cases h
  | cons a r ih =>
    simp only [sumS]
    rcases List.mem_cons.1 h with rfl | h
    · omega
    · have := ih h; omega
set_option maxHeartbeats 400000 in
set_option maxRecDepth 100000 in
theorem show_recd (ns : List ByteArray) (l : List Ty) (hl : ns.length = l.length) (H : ∀ y ∈ l, ShowOk y) (hs : ∀ y ∈ l, (showT y).size ≤ 70368744177664) (hn : l.length ≤ 1099511627776) (A2 A3 : Option Addr) (c2 c3 : Nat) (hz1 : sumB ns ≤ 70368744177664) (hz2 : sumS (l.map (inT [])) ≤ 70368744177664) (w : World) [GW w] (hr2 : Kd.string.C w A2 ns.length ns) (hr : k25.C w A3 l.length l) : Calls Tryd.prog 38 #[agT 8 0 A2 ns.length c2 A3 l.length c3] w fun e w' => e = .returned (.string (showT ⟨8, 0, ns, l⟩)) ∧ Below w.heap.size w w' := by
  have hu25 := Tryd.underlying25
  have hB := Aside0.mk (below_alloc (Below.refl w.heap.size w) (.cells #[.int .i64 8, .int .i64 0, .slice A2 ns.length c2, .slice A3 l.length c3] 25))
  have B0 := Aside0.mk (heap_alloc_new w (.cells #[.int .i64 8, .int .i64 0, .slice A2 ns.length c2, .slice A3 l.length c3] 25))
  have t0 : (w.alloc (.cells #[.int .i64 8, .int .i64 0, .slice A2 ns.length c2, .slice A3 l.length c3] 25)).cell? ⟨w.heap.size, 0, none⟩ = some (.int .i64 8) := (blk_cell B0.out 0).trans rfl
  have t1 : (w.alloc (.cells #[.int .i64 8, .int .i64 0, .slice A2 ns.length c2, .slice A3 l.length c3] 25)).cell? ⟨w.heap.size, 1, none⟩ = some (.int .i64 0) := (blk_cell B0.out 1).trans rfl
  have t2 : (w.alloc (.cells #[.int .i64 8, .int .i64 0, .slice A2 ns.length c2, .slice A3 l.length c3] 25)).cell? ⟨w.heap.size, 2, none⟩ = some (.slice A2 ns.length c2) := (blk_cell B0.out 2).trans rfl
  have t3 : (w.alloc (.cells #[.int .i64 8, .int .i64 0, .slice A2 ns.length c2, .slice A3 l.length c3] 25)).cell? ⟨w.heap.size, 3, none⟩ = some (.slice A3 l.length c3) := (blk_cell B0.out 3).trans rfl
  haveI := GW.of hB.out
  have HT : Aside0 (showT ⟨8, 0, ns, l⟩ = recB ns (l.map (inT []))) := ⟨by rw [showT_is]; unfold showK; rw [if_neg (by simp), if_pos (by simp), List.map_map]; rfl⟩
  have HRR := Aside0.mk hr
  have HR2 := Aside0.mk hr2
  have HS := Aside0.mk hs
  have HH := Aside0.mk H
  have HZ1 := Aside0.mk hz1
  have HZ2 := Aside0.mk hz2
  have HNl := Aside0.mk hn
  have HLL := Aside0.mk hl
  clear hr hr2 hs H hz1 hz2 hl
  go_enter Tryd.func38, Tryd.ntmps38
  go_wp2_with (go_at_call 55; refine holdT_ ?_)
  unfold HeldT
  refine (shown_calls l hn HH.out HS.out [] (by decide) none 0 A3 c3 _ (Kd.C_below HRR.out hB.out) (kinds0 _)).mono ?_
  rintro e w1 ⟨v, rfl, hRv, hb⟩
  obtain ⟨Av, cv, ev⟩ := Kd.R_slice hRv
  subst ev
  have HB1 := Aside0.mk (below_step hB.out hb)
  have BX := Aside0.mk (blk_below B0.out hb)
  have HLn : Aside0 ((l.map (inT [])).length = l.length) := ⟨by simp⟩
  obtain ⟨_, _, ev, hc, hC⟩ := Kd.R_reads hRv
  injection ev with e1 _ e2
  subst e1
  subst e2
  have HC := Aside0.mk hC
  have HC2 := Aside0.mk (Kd.C_below HR2.out HB1.out)
  clear hRv hC hB B0 t0 t1 t2 t3 hc hn
  generalize l.map (inT []) = xs at *
  have hxn : xs.length ≤ 1099511627776 := by have := HLn.out; have := HNl.out; omega
  obtain ⟨⟨t0, t1, t2, t3⟩, _⟩ := box4T BX.out
  go_wp2
  go_loopw [4, 5, 6, 35] (fun v4 _ _ v35 W => ∃ i : Nat, v35 = .int .i64 i ∧ i ≤ xs.length ∧ v4 = .string ((⟨#[123]⟩ : ByteArray) ++ slotsB (ns.take i) (xs.take i)) ∧ W = w1) (fun _ _ _ v35 _ => xs.length + 1 - (RowKit.intOf v35).toNat)
  case atStart => exact ⟨0, rfl, Nat.zero_le _, by rw [List.take_zero, List.take_zero]; rfl, rfl⟩
  case round =>
    obtain ⟨i, rfl, hin, rfl, rfl⟩ := hrel
    by_cases hi : i < xs.length
    · have hi2 : i < ns.length := by have := HLn.out; have := HLL.out; omega
      obtain ⟨ad, e, hc⟩ := at_s HC.out hi
      obtain ⟨ad2, e2, hc2⟩ := at_s HC2.out hi2
      subst e
      subst e2
      have HN : Aside0 (slotsB (ns.take (i + 1)) (xs.take (i + 1)) = slotsB (ns.take i) (xs.take i) ++ slotB ns[i] xs[i]) := ⟨slots_next ns xs i hi2 hi⟩
      have g1 : ns[i].size ≤ 70368744177664 := by have := sumB_mem (List.getElem_mem hi2); have := HZ1.out; omega
      have g2 : xs[i].size ≤ 70368744177664 := by have := sumS_mem (List.getElem_mem hi); have := HZ2.out; omega
      have g3 : (slotsB (ns.take i) (xs.take i)).size ≤ 140737488355328 := by
        have h1 := slotsB_size (ns.take i) (xs.take i); have h2 := sumB_take ns i; have h3 := sumS_take xs i; have := HZ1.out; have := HZ2.out; omega
      generalize slotsB (ns.take i) (xs.take i) = S at *
      generalize ns[i] = x at *
      generalize xs[i] = y at *
      have hlt : ((i : Int) < (xs.length : Int)) = True := by simp [hi]
      have hlt2 : ((i : Int) < (ns.length : Int)) = True := by simp [hi2]
      have hge : ((0 : Int) ≤ (i : Int)) = True := by simp
      go_wp2
      go_roundw
      case measure => simp [RowKit.intOf]; omega
      case rel => exact ⟨i + 1, by go_num, hi, by rw [HN.out, ← ByteArray.append_assoc (a := ⟨#[123]⟩)]; rfl, trivial⟩
    · obtain rfl : i = xs.length := by omega
      have g3 : (slotsB ns xs).size ≤ 140737488355328 := by
        have h1 := slotsB_size ns xs; have := HZ1.out; have := HZ2.out; omega
      have e2 : slotsB (ns.take xs.length) (xs.take xs.length) = slotsB ns xs := by
        rw [List.take_length, List.take_of_length_le (by have := HLn.out; have := HLL.out; omega)]
      rw [e2]
      have HS2 : Aside0 (recB ns xs = (if 0 < xs.length then ((⟨#[123]⟩ : ByteArray) ++ slotsB ns xs) ++ (⟨#[32]⟩ : ByteArray) else (⟨#[123]⟩ : ByteArray) ++ slotsB ns xs) ++ (⟨#[125]⟩ : ByteArray)) := ⟨rfl⟩
      clear e2
      generalize slotsB ns xs = S at *
      have hlt : ((xs.length : Int) < (xs.length : Int)) = False := by simp
      go_wp2
      · rename_i hp
        go_ret
        exact ⟨by rw [HT.out, HS2.out, if_pos (by have := HLn.out; omega)]; rfl, HB1.out⟩
      · rename_i hp
        go_ret
        exact ⟨by rw [HT.out, HS2.out, if_neg (by have := HLn.out; omega)]; rfl, HB1.out⟩
theorem take_row {W : World} {A : Option Addr} {ps : List Ty} {q : Ty} (h : k25.C W A (ps ++ [q]).length (ps ++ [q])) : k25.C W A ps.length ps := by
  obtain ⟨_, h2, hg⟩ := h
  refine ⟨rfl, by simp at h2; omega, fun hp => ?_⟩
  obtain ⟨ad, e, hc⟩ := hg (by simp)
  exact ⟨ad, e, fun j x hj => hc j x (by rw [List.getElem?_append_left (List.getElem?_eq_some_iff.1 hj).1]; exact hj)⟩
set_option maxHeartbeats 400000 in
set_option maxRecDepth 100000 in
theorem show_fn (ps : List Ty) (q : Ty) (H : ∀ y ∈ ps, ShowOk y) (Hq : ShowOk q) (hs : ∀ y ∈ ps, (showT y).size ≤ 70368744177664) (hn : ps.length ≤ 1099511627776) (A2 A3 : Option Addr) (m2 c2 c3 : Nat) (ns : List ByteArray) (hR : (showT ⟨9, 0, ns, ps ++ [q]⟩).size ≤ 70368744177664) (w : World) [GW w] (hc3 : ps.length + 1 ≤ c3) (hr : k25.C w A3 (ps ++ [q]).length (ps ++ [q])) : Calls Tryd.prog 38 #[agT 9 0 A2 m2 c2 A3 (ps.length + 1) c3] w fun e w' => e = .returned (.string (showT ⟨9, 0, ns, ps ++ [q]⟩)) ∧ Below w.heap.size w w' := by
  have hu25 := Tryd.underlying25
  have hB := Aside0.mk (below_alloc (Below.refl w.heap.size w) (.cells #[.int .i64 9, .int .i64 0, .slice A2 m2 c2, .slice A3 (ps.length + 1) c3] 25))
  have B0 := Aside0.mk (heap_alloc_new w (.cells #[.int .i64 9, .int .i64 0, .slice A2 m2 c2, .slice A3 (ps.length + 1) c3] 25))
  have t0 : (w.alloc (.cells #[.int .i64 9, .int .i64 0, .slice A2 m2 c2, .slice A3 (ps.length + 1) c3] 25)).cell? ⟨w.heap.size, 0, none⟩ = some (.int .i64 9) := (blk_cell B0.out 0).trans rfl
  have t1 : (w.alloc (.cells #[.int .i64 9, .int .i64 0, .slice A2 m2 c2, .slice A3 (ps.length + 1) c3] 25)).cell? ⟨w.heap.size, 1, none⟩ = some (.int .i64 0) := (blk_cell B0.out 1).trans rfl
  have t2 : (w.alloc (.cells #[.int .i64 9, .int .i64 0, .slice A2 m2 c2, .slice A3 (ps.length + 1) c3] 25)).cell? ⟨w.heap.size, 2, none⟩ = some (.slice A2 m2 c2) := (blk_cell B0.out 2).trans rfl
  have t3 : (w.alloc (.cells #[.int .i64 9, .int .i64 0, .slice A2 m2 c2, .slice A3 (ps.length + 1) c3] 25)).cell? ⟨w.heap.size, 3, none⟩ = some (.slice A3 (ps.length + 1) c3) := (blk_cell B0.out 3).trans rfl
  haveI := GW.of hB.out
  have HT : Aside0 (showT ⟨9, 0, ns, ps ++ [q]⟩ = (((⟨#[40]⟩ : ByteArray) ++ joinB (ps.map (inT [])) ⟨#[44, 32]⟩) ++ (⟨#[41, 32, 61, 62, 32]⟩ : ByteArray)) ++ showT q) := ⟨by
    rw [showT_is]; unfold showK; rw [if_neg (by simp), if_neg (by simp), if_pos (by simp)]
    have e1 : (((ps ++ [q]).map pairT).take (((ps ++ [q]).map pairT).length - 1)) = ps.map pairT := by simp
    have e2 : (((ps ++ [q]).map pairT).getLastD (0, ⟨#[]⟩)) = pairT q := by simp
    show ((⟨#[40]⟩ ++ joinB ((((ps ++ [q]).map pairT).take (((ps ++ [q]).map pairT).length - 1)).map (withinB [])) ⟨#[44, 32]⟩) ++ ⟨#[41, 32, 61, 62, 32]⟩) ++ (((ps ++ [q]).map pairT).getLastD (0, ⟨#[]⟩)).2 = _
    rw [e1, e2, List.map_map]; rfl⟩
  have hsz := hR
  rw [HT.out] at hsz
  simp only [app_size, z40, z41] at hsz
  obtain ⟨ad, B2, d2, B3, d3, e, q0, q1, q2, q3, rows⟩ := at_ty hr hB.out (show ps.length < (ps ++ [q]).length by simp)
  subst e
  simp only [List.getElem_append_right (Nat.le_refl _), Nat.sub_self, List.getElem_cons_zero] at q0 q1 q2 q3 rows
  have ROWS := Aside0.mk rows
  have HRR := Aside0.mk (take_row hr)
  have HS := Aside0.mk hs
  have HH := Aside0.mk H
  have HQ := Aside0.mk Hq
  have HNl := Aside0.mk hn
  clear hr hs H Hq rows
  have hi : (((ps.length : Int) + 1) - 1) = (ps.length : Int) := by omega
  have hle : ((ps.length : Int) ≤ (c3 : Int)) = True := by simp; omega
  have hge : ((0 : Int) ≤ (ps.length : Int)) = True := by simp
  have hlt : ((ps.length : Int) < ((ps.length : Int) + 1)) = True := by simp; omega
  go_enter Tryd.func38, Tryd.ntmps38
  go_wp2
  trace_state
  refine start_ (n := 16) (S := fun w' => w'.cell? ⟨w.heap.size, 0, none⟩ = some (.int .i64 9) ∧ w'.cell? ⟨w.heap.size, 1, none⟩ = some (.int .i64 0) ∧ w'.cell? ⟨w.heap.size, 2, none⟩ = some (.slice A2 m2 c2) ∧ w'.cell? ⟨w.heap.size, 3, none⟩ = some (.slice (some ad) (ps.length + 1) c3) ∧ w'.cell? (ad.add (ps.length * 4)) = some (.int .i64 q.f0) ∧ w'.cell? ⟨(ad.add (ps.length * 4)).block, (ad.add (ps.length * 4)).off + 1, none⟩ = some (.int .i64 q.f1) ∧ w'.cell? ⟨(ad.add (ps.length * 4)).block, (ad.add (ps.length * 4)).off + 2, none⟩ = some (.slice B2 q.f2.length d2) ∧ w'.cell? ⟨(ad.add (ps.length * 4)).block, (ad.add (ps.length * 4)).off + 3, none⟩ = some (.slice B3 q.f3.length d3)) (ds := []) #[false, false, false, false, false, false, false, false, false, false, false, false, false, false, false, false] (by kernel_rfl) rfl rfl ⟨t0, t1, t2, t3, q0, q1, q2, q3⟩ (fun hHeld => ?_)
  refine pure_ (i := 0) (N := some 65) (v := ?_) (a' := ?_) #[true, false, false, false, false, false, false, false, false, false, false, false, false, false, false, false] rfl rfl (by kernel_rfl) (fun _ _ _ h => h) (Or.inl ⟨by rfl, ?_⟩) ?_ ?_
  rotate_left
  · intro w'
    go_simp
    with_reducible rfl
  rotate_left
  · simp only [Act.put, List.setIfInBounds_toArray, List.set_cons_zero, List.set_cons_succ, i64_w, i32_w]
    rfl
  refine pure_ (i := 2) (N := some 67) (v := ?_) (a' := ?_) #[true, false, true, false, false, false, false, false, false, false, false, false, false, false, false, false] rfl rfl (by kernel_rfl) (fun _ _ _ h => h) (Or.inl ⟨by rfl, ?_⟩) ?_ ?_
  rotate_left
  · intro w'
    go_simp
    with_reducible rfl
  rotate_left
  · simp only [Act.put, List.setIfInBounds_toArray, List.set_cons_zero, List.set_cons_succ, i64_w, i32_w]
    rfl
  refine pure_ (i := 8) (N := some 73) (v := ?_) (a' := ?_) #[true, false, true, false, false, false, false, false, true, false, false, false, false, false, false, false] rfl rfl (by kernel_rfl) (fun _ _ _ h => h) (Or.inl ⟨by rfl, ?_⟩) ?_ ?_
  rotate_left
  · intro w'
    go_simp
    with_reducible rfl
  rotate_left
  · simp only [Act.put, List.setIfInBounds_toArray, List.set_cons_zero, List.set_cons_succ, i64_w, i32_w]
    rfl
  refine pure_ (i := 10) (N := some 75) (v := ?_) (a' := ?_) #[true, false, true, false, false, false, false, false, true, false, true, false, false, false, false, false] rfl rfl (by kernel_rfl) (fun _ _ _ h => h) (Or.inl ⟨by rfl, ?_⟩) ?_ ?_
  rotate_left
  · intro w'
    go_simp
    with_reducible rfl
  rotate_left
  · simp only [Act.put, List.setIfInBounds_toArray, List.set_cons_zero, List.set_cons_succ, i64_w, i32_w]
    rfl
  refine take_ (i := 1) (N := some 66) (v := ?_) (a' := ?_) #[true, true, true, false, false, false, false, false, true, false, true, false, false, false, false, false] rfl rfl (by kernel_rfl) (fun _ _ _ h => h) (Or.inl ⟨by rfl, ?_⟩) hHeld ?_ ?_
  rotate_left
  · rintro w' ⟨s0, s1, s2, s3, s4, s5, s6, s7⟩
    go_simp
    with_reducible rfl
  rotate_left
  · simp only [Act.put, List.setIfInBounds_toArray, List.set_cons_zero, List.set_cons_succ, i64_w, i32_w]
    rfl
  refine pure_ (i := 3) (N := some 68) (v := ?_) (a' := ?_) #[true, true, true, true, false, false, false, false, true, false, true, false, false, false, false, false] rfl rfl (by kernel_rfl) (fun _ _ _ h => h) (Or.inl ⟨by rfl, ?_⟩) ?_ ?_
  rotate_left
  · intro w'
    go_simp
    with_reducible rfl
  rotate_left
  · simp only [Act.put, List.setIfInBounds_toArray, List.set_cons_zero, List.set_cons_succ, i64_w, i32_w]
    rfl
  refine take_ (i := 9) (N := some 74) (v := ?_) (a' := ?_) #[true, true, true, true, false, false, false, false, true, true, true, false, false, false, false, false] rfl rfl (by kernel_rfl) (fun _ _ _ h => h) (Or.inl ⟨by rfl, ?_⟩) hHeld ?_ ?_
  rotate_left
  · rintro w' ⟨s0, s1, s2, s3, s4, s5, s6, s7⟩
    go_simp
    with_reducible rfl
  rotate_left
  · simp only [Act.put, List.setIfInBounds_toArray, List.set_cons_zero, List.set_cons_succ, i64_w, i32_w]
    rfl
  refine pure_ (i := 11) (N := some 76) (v := ?_) (a' := ?_) #[true, true, true, true, false, false, false, false, true, true, true, true, false, false, false, false] rfl rfl (by kernel_rfl) (fun _ _ _ h => h) (Or.inl ⟨by rfl, ?_⟩) ?_ ?_
  rotate_left
  · intro w'
    go_simp
    with_reducible rfl
  rotate_left
  · simp only [Act.put, List.setIfInBounds_toArray, List.set_cons_zero, List.set_cons_succ, i64_w, i32_w]
    rfl
  refine take_ (i := 12) (N := some 77) (v := ?_) (a' := ?_) #[true, true, true, true, false, false, false, false, true, true, true, true, true, false, false, false] rfl rfl (by kernel_rfl) (fun _ _ _ h => h) (Or.inl ⟨by rfl, ?_⟩) hHeld ?_ ?_
  rotate_left
  · rintro w' ⟨s0, s1, s2, s3, s4, s5, s6, s7⟩
    go_simp
    with_reducible rfl
  rotate_left
  · simp only [Act.put, List.setIfInBounds_toArray, List.set_cons_zero, List.set_cons_succ, i64_w, i32_w]
    rfl
  refine one_ (i := 4) (N := some 69) #[true, true, true, true, true, false, false, false, true, true, true, true, true, false, false, false] rfl rfl (by kernel_rfl) (by decide) (fun K hK => ?_)
  refine call_ 55 #[.slice (some ad) ps.length c3, .slice none 0 0] (by rfl) rfl ?_ ?_
  · go_simp
    try rfl
  haveI := GW.of (below_drew1 hB.out)
  refine (shown_calls ps hn HH.out HS.out [] (by decide) none 0 (some ad) c3 _ (Kd.C_below HRR.out (below_drew1 hB.out)) (kinds0 _)).mono ?_
  rintro e w1 ⟨v, rfl, hRv, hb⟩
  refine ⟨_, rfl, ?_⟩
  obtain ⟨Av, cv, ev⟩ := Kd.R_slice hRv
  subst ev
  have HB1 := Aside0.mk (below_step (below_drew1 hB.out) hb)
  have HLn : Aside0 ((ps.map (inT [])).length = ps.length) := ⟨by simp⟩
  obtain ⟨_, _, ev, hc, hC⟩ := Kd.R_reads hRv
  injection ev with e1 _ e2
  subst e1
  subst e2
  have HC := Aside0.mk hC
  have HCc := Aside0.mk hc
  clear hRv hC hc
  generalize ps.map (inT []) = xs at *
  refine hK.out _ _ ⟨pw_cell_below hb hHeld.1, pw_cell_below hb hHeld.2.1, pw_cell_below hb hHeld.2.2.1, pw_cell_below hb hHeld.2.2.2.1, pw_cell_below hb hHeld.2.2.2.2.1, pw_cell_below hb hHeld.2.2.2.2.2.1, pw_cell_below hb hHeld.2.2.2.2.2.2.1, pw_cell_below hb hHeld.2.2.2.2.2.2.2⟩ (fun hHeld => ?_)
  clear hK K
  refine norm_ (a' := ?_) ?_ ?_
  rotate_left
  · show Act.put _ (some 69) _ = _
    simp only [Act.put, List.setIfInBounds_toArray, List.set_cons_zero, List.set_cons_succ, i64_w, i32_w]
    rfl
  refine one_ (i := 5) (N := some 70) #[true, true, true, true, true, true, false, false, true, true, true, true, true, false, false, false] rfl rfl (by kernel_rfl) (by decide) (fun K hK => ?_)
  refine call_ 56 #[.slice Av xs.length cv, .string ⟨#[44, 32]⟩] (by rfl) rfl ?_ ?_
  · go_simp
    try rfl
  refine (join_calls Av cv xs ⟨#[44, 32]⟩ _ HC.out HCc.out (by have := HLn.out; omega) (by omega)).mono ?_
  rintro e w2 ⟨rfl, hb⟩
  refine ⟨_, rfl, ?_⟩
  have HB2 := Aside0.mk (below_step HB1.out hb)
  have hs1 : (9223372036854775807 < 1 + (joinB xs ⟨#[44, 32]⟩).size) = False := eq_false (by omega)
  have hs2 : (9223372036854775807 < 1 + (joinB xs ⟨#[44, 32]⟩).size + 5) = False := eq_false (by omega)
  have hs3 : (9223372036854775807 < 1 + (joinB xs ⟨#[44, 32]⟩).size + 5 + (showT q).size) = False := eq_false (by omega)
  refine hK.out _ _ ⟨pw_cell_below hb hHeld.1, pw_cell_below hb hHeld.2.1, pw_cell_below hb hHeld.2.2.1, pw_cell_below hb hHeld.2.2.2.1, pw_cell_below hb hHeld.2.2.2.2.1, pw_cell_below hb hHeld.2.2.2.2.2.1, pw_cell_below hb hHeld.2.2.2.2.2.2.1, pw_cell_below hb hHeld.2.2.2.2.2.2.2⟩ (fun hHeld => ?_)
  clear hK K
  refine norm_ (a' := ?_) ?_ ?_
  rotate_left
  · show Act.put _ (some 70) _ = _
    simp only [Act.put, List.setIfInBounds_toArray, List.set_cons_zero, List.set_cons_succ, i64_w, i32_w]
    rfl
  refine pure_ (i := 6) (N := some 71) (v := ?_) (a' := ?_) #[true, true, true, true, true, true, true, false, true, true, true, true, true, false, false, false] rfl rfl (by kernel_rfl) (fun _ _ _ h => h) (Or.inl ⟨by rfl, ?_⟩) ?_ ?_
  rotate_left
  · intro w'
    go_simp
    with_reducible rfl
  rotate_left
  · simp only [Act.put, List.setIfInBounds_toArray, List.set_cons_zero, List.set_cons_succ, i64_w, i32_w]
    rfl
  refine pure_ (i := 7) (N := some 72) (v := ?_) (a' := ?_) #[true, true, true, true, true, true, true, true, true, true, true, true, true, false, false, false] rfl rfl (by kernel_rfl) (fun _ _ _ h => h) (Or.inl ⟨by rfl, ?_⟩) ?_ ?_
  rotate_left
  · intro w'
    go_simp
    with_reducible rfl
  rotate_left
  · simp only [Act.put, List.setIfInBounds_toArray, List.set_cons_zero, List.set_cons_succ, i64_w, i32_w]
    rfl
  refine one_ (i := 13) (N := some 78) #[true, true, true, true, true, true, true, true, true, true, true, true, true, true, false, false] rfl rfl (by kernel_rfl) (by decide) (fun K hK => ?_)
  refine call_ 38 #[.agg #[.int .i64 q.f0, .int .i64 q.f1, .slice B2 q.f2.length d2, .slice B3 q.f3.length d3]] (by rfl) rfl ?_ ?_
  · go_simp
    try rfl
  haveI := GW.of HB2.out
  refine (HQ.out B2 d2 B3 d3 _ (ROWS.out.below HB2.out)).mono ?_
  rintro e w3 ⟨rfl, hb⟩
  refine ⟨_, rfl, ?_⟩
  have HB3 := Aside0.mk (below_step HB2.out hb)
  refine hK.out _ _ ⟨pw_cell_below hb hHeld.1, pw_cell_below hb hHeld.2.1, pw_cell_below hb hHeld.2.2.1, pw_cell_below hb hHeld.2.2.2.1, pw_cell_below hb hHeld.2.2.2.2.1, pw_cell_below hb hHeld.2.2.2.2.2.1, pw_cell_below hb hHeld.2.2.2.2.2.2.1, pw_cell_below hb hHeld.2.2.2.2.2.2.2⟩ (fun hHeld => ?_)
  clear hK K
  refine norm_ (a' := ?_) ?_ ?_
  rotate_left
  · show Act.put _ (some 78) _ = _
    simp only [Act.put, List.setIfInBounds_toArray, List.set_cons_zero, List.set_cons_succ, i64_w, i32_w]
    rfl
  refine pure_ (i := 14) (N := some 79) (v := ?_) (a' := ?_) #[true, true, true, true, true, true, true, true, true, true, true, true, true, true, true, false] rfl rfl (by kernel_rfl) (fun _ _ _ h => h) (Or.inl ⟨by rfl, ?_⟩) ?_ ?_
  rotate_left
  · intro w'
    go_simp
    with_reducible rfl
  rotate_left
  · simp only [Act.put, List.setIfInBounds_toArray, List.set_cons_zero, List.set_cons_succ, i64_w, i32_w]
    rfl
  refine pure_ (i := 15) (N := some 2) (v := ?_) (a' := ?_) #[true, true, true, true, true, true, true, true, true, true, true, true, true, true, true, true] rfl rfl (by kernel_rfl) (fun _ _ _ h => h) (Or.inl ⟨by rfl, ?_⟩) ?_ ?_
  rotate_left
  · intro w'
    go_simp
    with_reducible rfl
  rotate_left
  · simp only [Act.put, List.setIfInBounds_toArray, List.set_cons_zero, List.set_cons_succ, i64_w, i32_w]
    rfl
  refine done_ (by kernel_rfl) ?_
  go_wp2
  go_ret
  exact ⟨by rw [HT.out]; rfl, HB3.out⟩
end Go.Proofs.YtjcajpkgamolkaaDoor.Ty
namespace Go.Proofs.YtjcajpkgamolkaaDoor.Ty
open Go.RowKit Go.Proofs.YtjcajpkgamolkaaDoor.PTyp Go.Proofs.YtjcajpkgamolkaaDoorW.PrintWords Go.Proofs.YtjcajpkgamolkaaDoorW.PrintLast Go.Proofs.YtjcajpkgamolkaaDoorW.PrintMore
set_option linter.unusedVariables false
set_option linter.unusedSimpArgs false
theorem sum_in (ks : List Int) : ∀ l : List Ty, (∀ t ∈ l, (showT t).size + 16 ≤ zT t) → sumS (l.map (inT ks)) ≤ zTs l
  | [], _ => by simp [sumS, zTs_nil]
  | t :: r, h => by
    have h1 := h t (by simp)
    have h2 := sum_in ks r (fun x hx => h x (by simp [hx]))
    have h3 : (inT ks t).size ≤ (showT t).size + 2 := withinB_size _ _
    rw [zTs_cons, List.map_cons, sumS]
    omega
theorem zTs_len : ∀ l : List Ty, 48 * l.length ≤ zTs l
  | [] => by simp [zTs_nil]
  | a :: r => by have := zTs_len r; rw [zTs_cons, zT_is, List.length_cons]; omega
theorem show_ok (t : Ty) : mayT t = true → rngT t = true → zT t ≤ 35184372088832 → ShowOk t := by
  refine Ty.ind (p := fun t => mayT t = true → rngT t = true → zT t ≤ 35184372088832 → ShowOk t) ?_ t
  intro k n ns l ih hm hg hz
  have hsize := showT_size ⟨k, n, ns, l⟩ hg
  rw [zT_is] at hz
  rw [rngT_iff] at hg
  rw [mayT_mk, Bool.and_eq_true, mayTs_iff] at hm
  obtain ⟨hs, hm⟩ := hm
  obtain ⟨hn, hg⟩ := hg
  have hz' : 48 + sumB ns + zTs l ≤ 35184372088832 := hz
  have hzl : ∀ y ∈ l, zT y ≤ 35184372088832 := fun y hy => by have := zTs_mem hy; omega
  have H : ∀ y ∈ l, ShowOk y := fun y hy => ih y hy (hm y hy) (hg y hy) (hzl y hy)
  have hss : ∀ y ∈ l, (showT y).size + 16 ≤ zT y := fun y hy => showT_size y (hg y hy)
  have hs4 : ∀ y ∈ l, (showT y).size ≤ 70368744177664 := fun y hy => by have := hss y hy; have := hzl y hy; omega
  have hln : l.length ≤ 1099511627776 := by have := zTs_len l; omega
  have hR : (showT ⟨k, n, ns, l⟩).size ≤ 70368744177664 := by have := zT_is ⟨k, n, ns, l⟩; have e : zT ⟨k, n, ns, l⟩ = 48 + sumB ns + zTs l := this; omega
  intro A2 c2 A3 c3 w _ rows
  obtain ⟨r1, r2, r3, r4⟩ := rows
  replace r1 : ns.length ≤ c2 := r1
  replace r2 : Kd.string.C w A2 ns.length ns := r2
  replace r3 : l.length ≤ c3 := r3
  replace r4 : k25.C w A3 l.length l := r4
  show Calls Tryd.prog 38 #[agT k n A2 ns.length c2 A3 l.length c3] w _
  replace hs : (if 1 ≤ k ∧ k ≤ 6 then ns.length == 0 && l.length == 0 && n == 0
    else if k = 7 then ns.length == 0 && l.length == 1 && n == 0
    else if k = 8 then risesB ns && l.length == ns.length && n == 0
    else if k = 9 then ns.length == 0 && decide (1 ≤ l.length) && n == 0
    else if k = 10 then partsOk l && ns.length == 0 && decide (2 ≤ l.length) && n == 0
    else if 11 ≤ k ∧ k ≤ 13 then ns.length == 0 && l.length == 0 && decide (0 ≤ n)
    else false) = true := hs
  by_cases h : 1 ≤ k ∧ k ≤ 6
  · rw [if_pos h] at hs
    simp only [Bool.and_eq_true, beq_iff_eq] at hs
    obtain ⟨⟨h1, h2⟩, rfl⟩ := hs
    obtain rfl := List.eq_nil_of_length_eq_zero h1
    obtain rfl := List.eq_nil_of_length_eq_zero h2
    have hk : k = 1 ∨ k = 2 ∨ k = 3 ∨ k = 4 ∨ k = 5 ∨ k = 6 := by omega
    rcases hk with rfl | rfl | rfl | rfl | rfl | rfl
    · exact show_word1 A2 A3 c2 c3 w
    · exact show_word2 A2 A3 c2 c3 w
    · exact show_word3 A2 A3 c2 c3 w
    · exact show_word4 A2 A3 c2 c3 w
    · exact show_word5 A2 A3 c2 c3 w
    · exact show_word6 A2 A3 c2 c3 w
  rw [if_neg h] at hs
  by_cases h : k = 7
  · rw [if_pos h] at hs
    subst h
    simp only [Bool.and_eq_true, beq_iff_eq] at hs
    obtain ⟨⟨h1, h2⟩, rfl⟩ := hs
    obtain ⟨y, rfl⟩ := List.length_eq_one_iff.1 h2
    exact show_list y (H y (by simp)) (hs4 y (by simp)) A2 A3 ns.length c2 c3 ns w r4
  rw [if_neg h] at hs
  by_cases h : k = 8
  · rw [if_pos h] at hs
    subst h
    simp only [Bool.and_eq_true, beq_iff_eq] at hs
    obtain ⟨⟨h1, h2⟩, rfl⟩ := hs
    exact show_recd ns l h2.symm H hs4 hln A2 A3 c2 c3 (by omega) (by have := sum_in [] l hss; omega) w r2 r4
  rw [if_neg h] at hs
  by_cases h : k = 9
  · rw [if_pos h] at hs
    subst h
    simp only [Bool.and_eq_true, beq_iff_eq, decide_eq_true_eq] at hs
    obtain ⟨⟨h1, h2⟩, rfl⟩ := hs
    rcases List.eq_nil_or_concat l with rfl | ⟨ps, q, rfl⟩
    · simp at h2
    · rw [List.concat_eq_append] at *
      rw [List.length_append] at r3 hln
      have e : (ps ++ [q]).length = ps.length + 1 := by simp
      rw [show agT 9 0 A2 ns.length c2 A3 (ps ++ [q]).length c3 = agT 9 0 A2 ns.length c2 A3 (ps.length + 1) c3 by rw [e]]
      exact show_fn ps q (fun y hy => H y (by simp [hy])) (H q (by simp)) (fun y hy => hs4 y (by simp [hy])) (by omega) A2 A3 ns.length c2 c3 ns hR w r3 r4
  rw [if_neg h] at hs
  by_cases h : k = 10
  · rw [if_pos h] at hs
    subst h
    simp only [Bool.and_eq_true, beq_iff_eq, decide_eq_true_eq] at hs
    obtain ⟨⟨⟨h0, h1⟩, h2⟩, rfl⟩ := hs
    exact show_either l H hs4 hln A2 A3 ns.length c2 c3 ns hR w r4
  rw [if_neg h] at hs
  by_cases h : 11 ≤ k ∧ k ≤ 13
  · rw [if_pos h] at hs
    simp only [Bool.and_eq_true, beq_iff_eq, decide_eq_true_eq] at hs
    obtain ⟨⟨h1, h2⟩, h3⟩ := hs
    obtain rfl := List.eq_nil_of_length_eq_zero h1
    obtain rfl := List.eq_nil_of_length_eq_zero h2
    have hk : k = 11 ∨ k = 12 ∨ k = 13 := by omega
    rcases hk with rfl | rfl | rfl
    · exact show_ref11 n hn A2 A3 c2 c3 w
    · exact show_ref12 n hn A2 A3 c2 c3 w
    · exact show_ref13 n hn A2 A3 c2 c3 w
  · rw [if_neg h] at hs; cases hs
end Go.Proofs.YtjcajpkgamolkaaDoor.Ty
