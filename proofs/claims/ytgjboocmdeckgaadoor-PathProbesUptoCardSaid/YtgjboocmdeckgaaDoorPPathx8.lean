/- Contracts: path_Probes. -/
import Derived.Test.YtgjboocmdeckgaaDoorPPathx0
namespace Go.Proofs.YtgjboocmdeckgaaDoor.PPath
open Go.RowKit Go.Proofs.YtgjboocmdeckgaaDoorW.PrintWords Go.Proofs.YtgjboocmdeckgaaDoorW.PrintLast Go.Proofs.YtgjboocmdeckgaaDoorW.PrintMore
attribute [local go_sem] max2_int min2_int max_two min_two max_three min_three max_four min_four   -- for this text's walks alone
set_option linter.unusedVariables false
set_option linter.unusedSimpArgs false

/-! ### path_Probes -/
def path_Probes.step (a0 e : ByteArray) (l : List ByteArray) : List ByteArray := if (a0.size : Int) + e.size ≤ 200 then l ++ [a0 ++ e] else l
def path_Probes.e0 : ByteArray := ⟨#[]⟩
def path_Probes.e1 : ByteArray := ⟨#[46, 116, 115]⟩
def path_Probes.e2 : ByteArray := ⟨#[47, 105, 110, 100, 101, 120, 46, 116, 115]⟩
def path_Probes.p0 (a0 : ByteArray) : List ByteArray := if (a0.size : Int) ≤ 200 then [a0 ++ ⟨#[]⟩] else []
def path_Probes.p1 (a0 : ByteArray) : List ByteArray := path_Probes.step a0 path_Probes.e1 (path_Probes.p0 a0)
def path_Probes.p2 (a0 : ByteArray) : List ByteArray := path_Probes.step a0 path_Probes.e2 (path_Probes.p1 a0)
def path_Probes.f (_k : Nat) (a0 : ByteArray) : Option (List ByteArray) := if a0.size ≤ 140737488355328 then some (path_Probes.p2 a0) else none
theorem path_Probes.mono : ∀ a0 k, LeO (path_Probes.f k a0) (path_Probes.f (k + 1) a0) := fun _ _ => LeO.refl _
theorem path_Probes.p_len (a0 : ByteArray) : (path_Probes.p0 a0).length ≤ 1 ∧ (path_Probes.p1 a0).length ≤ 2 := by
  unfold path_Probes.p1 path_Probes.p0 path_Probes.step
  constructor
  · split <;> simp
  · split <;> split <;> simp
set_option maxHeartbeats 8000000 in
set_option maxRecDepth 100000 in
theorem path_Probes.calls (k : Nat) (a0 : ByteArray) (r : List ByteArray) (w : World) (h : path_Probes.f k a0 = some r) :
    Calls Tryd.prog 15 #[.string a0] w fun e w' => ∃ v0_ : Value, e = .returned (v0_) ∧ Kd.R Kd.string 9 w' w.heap.size (fun _ => True) v0_ r ∧ Below w.heap.size w w' := by
  unfold path_Probes.f at h
  split at h
  · rename_i hsz
    obtain rfl := Option.some.inj h
    clear h
    have LP := Aside0.mk (path_Probes.p_len a0)
    have HB := Aside0.mk (Below.refl w.heap.size w)
    have i0 : ∀ W, (Instr.index 39 (.agg #[.string ⟨#[]⟩, .string ⟨#[46, 116, 115]⟩, .string ⟨#[47, 105, 110, 100, 101, 120, 46, 116, 115]⟩]) (.int .i64 0)).run Tryd.prog W = .ok (.string ⟨#[]⟩) W := fun _ => by kernel_rfl
    have i1 : ∀ W, (Instr.index 39 (.agg #[.string ⟨#[]⟩, .string ⟨#[46, 116, 115]⟩, .string ⟨#[47, 105, 110, 100, 101, 120, 46, 116, 115]⟩]) (.int .i64 1)).run Tryd.prog W = .ok (.string ⟨#[46, 116, 115]⟩) W := fun _ => by kernel_rfl
    have i2 : ∀ W, (Instr.index 39 (.agg #[.string ⟨#[]⟩, .string ⟨#[46, 116, 115]⟩, .string ⟨#[47, 105, 110, 100, 101, 120, 46, 116, 115]⟩]) (.int .i64 2)).run Tryd.prog W = .ok (.string ⟨#[47, 105, 110, 100, 101, 120, 46, 116, 115]⟩) W := fun _ => by kernel_rfl
    go_enter Tryd.func15, Tryd.ntmps15
    go_wp2
    go_loopg [3, 7] 3 (fun kq v3 v7 w' => ∃ (x3 : List ByteArray) (x7 : Int), v7 = .int .i64 x7 ∧ Aside0 (kq = 3 ∧ x7 = 0 ∧ x3 = [] ∨ kq = 2 ∧ x7 = 1 ∧ x3 = path_Probes.p0 a0 ∨ kq = 1 ∧ x7 = 2 ∧ x3 = path_Probes.p1 a0 ∨ kq = 0 ∧ x7 = 3 ∧ x3 = path_Probes.p2 a0) ∧ Aside0 (Kd.R Kd.string 9 w' w.heap.size (fun _ => True) v3 x3) ∧ Aside0 (Below w.heap.size w w'))
    case atStart => exact ⟨[], 0, rfl, ⟨.inl ⟨rfl, rfl, rfl⟩⟩, ⟨Kd.R_nil _ _ _ _ _⟩, HB⟩
    case round =>
      obtain ⟨x3, x7, rfl, HX, HO_3, HB⟩ := hrel
      rcases HX.out with ⟨rfl, rfl, hx⟩ | ⟨rfl, rfl, hx⟩ | ⟨rfl, rfl, hx⟩ | ⟨rfl, rfl, hx⟩
      · clear HX
        have LN : Aside0 (x3.length + 1 ≤ 8796093022208) := ⟨by rw [hx]; simp⟩
        have HXX := Aside0.mk hx
        clear hx
        by_cases c : (a0.size : Int) ≤ 200
        · have c1 : decide ((a0.size : Int) ≤ 200) = true := decide_eq_true c
          have HN : Aside0 (x3 ++ [a0 ++ (⟨#[]⟩ : ByteArray)] = path_Probes.p0 a0) := ⟨by rw [HXX.out]; unfold path_Probes.p0; rw [if_pos (by first | exact c | (simpa [path_Probes.e1, path_Probes.e2, size_mk_] using c))]; rfl⟩
          have s1 : (a0.size + 0 ≤ 9223372036854775807) = True := eq_true (by omega)
          go_wp2_with (first | ((with_reducible refine gate_builtin (b := .append) (xs := #[.tmp 16, .tmp 20]) rfl ?_); at_builtin; refine Kd.R_append Kd.string (w0 := w) w.heap.size rfl (.tmp 16) (.tmp 20) 33 9 (.string ⟨#[]⟩) 16 rfl Tryd.underlying33 info9 rfl (by decide) (by omega) u3 x3 (a0 ++ (⟨#[]⟩ : ByteArray)) [.string (a0 ++ (⟨#[]⟩ : ByteArray))] (fun _ => True) (fun _ => False) rfl rfl ?aP (fun _ hk => hk.elim) ?aF ?aO ?aB ?aS ?aL ?_; (case aP => exact rfl); (case aB => exact (by repeat (first | (with_reducible first | exact HB.out | apply below_alloc | apply pw_below_drewN | apply below_drew1) | exact HB.out))); (case aF => exact (fun _ _ => trivial)); (case aO => exact (by (with_reducible repeat (first | apply Kd.R_alloc | apply Kd.R_drewN | apply Kd.R_drew)); exact HO_3.out)); (case aS => exact (below_size (by repeat (first | (with_reducible first | exact HB.out | apply below_alloc | apply pw_below_drewN | apply below_drew1) | exact HB.out)))); (case aL => have := LN.out; omega); intro v105 w8 ho hb hg hat; have HB1 := Aside0.mk hb; have HO1 := Aside0.mk ho; clear ho hb hg hat))
          go_roundg 2
          case measure => omega
          case rel => exact ⟨_, 1, (by first | rfl | (simp; done)), ⟨.inr (.inl ⟨rfl, rfl, HN.out⟩)⟩, HO1, HB1⟩
        · have c1 : decide ((a0.size : Int) ≤ 200) = false := decide_eq_false c
          have HN : Aside0 (x3 = path_Probes.p0 a0) := ⟨by rw [HXX.out]; unfold path_Probes.p0; rw [if_neg (by first | exact c | (simpa [path_Probes.e1, path_Probes.e2, size_mk_] using c))]⟩
          go_wp2
          go_roundg 2
          case measure => omega
          case rel => exact ⟨x3, 1, (by first | rfl | (simp; done)), ⟨.inr (.inl ⟨rfl, rfl, HN.out⟩)⟩, HO_3, HB⟩
      · clear HX
        have LN : Aside0 (x3.length + 1 ≤ 8796093022208) := ⟨by rw [hx]; have := LP.out; omega⟩
        have HXX := Aside0.mk hx
        clear hx
        by_cases c : (a0.size : Int) + 3 ≤ 200
        · have c1 : decide ((a0.size : Int) + 3 ≤ 200) = true := decide_eq_true c
          have HN : Aside0 (x3 ++ [a0 ++ (⟨#[46, 116, 115]⟩ : ByteArray)] = path_Probes.p1 a0) := ⟨by rw [HXX.out]; unfold path_Probes.p1 path_Probes.step; rw [if_pos (by first | exact c | (simpa [path_Probes.e1, path_Probes.e2, size_mk_] using c))]; rfl⟩
          have s1 : (a0.size + 3 ≤ 9223372036854775807) = True := eq_true (by omega)
          go_wp2_with (first | ((with_reducible refine gate_builtin (b := .append) (xs := #[.tmp 16, .tmp 20]) rfl ?_); at_builtin; refine Kd.R_append Kd.string (w0 := w) w.heap.size rfl (.tmp 16) (.tmp 20) 33 9 (.string ⟨#[]⟩) 16 rfl Tryd.underlying33 info9 rfl (by decide) (by omega) u3 x3 (a0 ++ (⟨#[46, 116, 115]⟩ : ByteArray)) [.string (a0 ++ (⟨#[46, 116, 115]⟩ : ByteArray))] (fun _ => True) (fun _ => False) rfl rfl ?aP (fun _ hk => hk.elim) ?aF ?aO ?aB ?aS ?aL ?_; (case aP => exact rfl); (case aB => exact (by repeat (first | (with_reducible first | exact HB.out | apply below_alloc | apply pw_below_drewN | apply below_drew1) | exact HB.out))); (case aF => exact (fun _ _ => trivial)); (case aO => exact (by (with_reducible repeat (first | apply Kd.R_alloc | apply Kd.R_drewN | apply Kd.R_drew)); exact HO_3.out)); (case aS => exact (below_size (by repeat (first | (with_reducible first | exact HB.out | apply below_alloc | apply pw_below_drewN | apply below_drew1) | exact HB.out)))); (case aL => have := LN.out; omega); intro v105 w8 ho hb hg hat; have HB1 := Aside0.mk hb; have HO1 := Aside0.mk ho; clear ho hb hg hat))
          go_roundg 1
          case measure => omega
          case rel => exact ⟨_, 2, (by first | rfl | (simp; done)), ⟨.inr (.inr (.inl ⟨rfl, rfl, HN.out⟩))⟩, HO1, HB1⟩
        · have c1 : decide ((a0.size : Int) + 3 ≤ 200) = false := decide_eq_false c
          have HN : Aside0 (x3 = path_Probes.p1 a0) := ⟨by rw [HXX.out]; unfold path_Probes.p1 path_Probes.step; rw [if_neg (by first | exact c | (simpa [path_Probes.e1, path_Probes.e2, size_mk_] using c))]⟩
          go_wp2
          go_roundg 1
          case measure => omega
          case rel => exact ⟨x3, 2, (by first | rfl | (simp; done)), ⟨.inr (.inr (.inl ⟨rfl, rfl, HN.out⟩))⟩, HO_3, HB⟩
      · clear HX
        have LN : Aside0 (x3.length + 1 ≤ 8796093022208) := ⟨by rw [hx]; have := LP.out; omega⟩
        have HXX := Aside0.mk hx
        clear hx
        by_cases c : (a0.size : Int) + 9 ≤ 200
        · have c1 : decide ((a0.size : Int) + 9 ≤ 200) = true := decide_eq_true c
          have HN : Aside0 (x3 ++ [a0 ++ (⟨#[47, 105, 110, 100, 101, 120, 46, 116, 115]⟩ : ByteArray)] = path_Probes.p2 a0) := ⟨by rw [HXX.out]; unfold path_Probes.p2 path_Probes.step; rw [if_pos (by first | exact c | (simpa [path_Probes.e1, path_Probes.e2, size_mk_] using c))]; rfl⟩
          have s1 : (a0.size + 9 ≤ 9223372036854775807) = True := eq_true (by omega)
          go_wp2_with (first | ((with_reducible refine gate_builtin (b := .append) (xs := #[.tmp 16, .tmp 20]) rfl ?_); at_builtin; refine Kd.R_append Kd.string (w0 := w) w.heap.size rfl (.tmp 16) (.tmp 20) 33 9 (.string ⟨#[]⟩) 16 rfl Tryd.underlying33 info9 rfl (by decide) (by omega) u3 x3 (a0 ++ (⟨#[47, 105, 110, 100, 101, 120, 46, 116, 115]⟩ : ByteArray)) [.string (a0 ++ (⟨#[47, 105, 110, 100, 101, 120, 46, 116, 115]⟩ : ByteArray))] (fun _ => True) (fun _ => False) rfl rfl ?aP (fun _ hk => hk.elim) ?aF ?aO ?aB ?aS ?aL ?_; (case aP => exact rfl); (case aB => exact (by repeat (first | (with_reducible first | exact HB.out | apply below_alloc | apply pw_below_drewN | apply below_drew1) | exact HB.out))); (case aF => exact (fun _ _ => trivial)); (case aO => exact (by (with_reducible repeat (first | apply Kd.R_alloc | apply Kd.R_drewN | apply Kd.R_drew)); exact HO_3.out)); (case aS => exact (below_size (by repeat (first | (with_reducible first | exact HB.out | apply below_alloc | apply pw_below_drewN | apply below_drew1) | exact HB.out)))); (case aL => have := LN.out; omega); intro v105 w8 ho hb hg hat; have HB1 := Aside0.mk hb; have HO1 := Aside0.mk ho; clear ho hb hg hat))
          go_roundg 0
          case measure => omega
          case rel => exact ⟨_, 3, (by first | rfl | (simp; done)), ⟨.inr (.inr (.inr ⟨rfl, rfl, HN.out⟩))⟩, HO1, HB1⟩
        · have c1 : decide ((a0.size : Int) + 9 ≤ 200) = false := decide_eq_false c
          have HN : Aside0 (x3 = path_Probes.p2 a0) := ⟨by rw [HXX.out]; unfold path_Probes.p2 path_Probes.step; rw [if_neg (by first | exact c | (simpa [path_Probes.e1, path_Probes.e2, size_mk_] using c))]⟩
          go_wp2
          go_roundg 0
          case measure => omega
          case rel => exact ⟨x3, 3, (by first | rfl | (simp; done)), ⟨.inr (.inr (.inr ⟨rfl, rfl, HN.out⟩))⟩, HO_3, HB⟩
      · clear HX
        subst hx
        go_wp2
        refine bodyPost_ret (by simp [results, Tryd.results15, go_sem]; try rfl) rfl ⟨_, rfl, HO_3.out, HB.out⟩
  · cases h

end Go.Proofs.YtgjboocmdeckgaaDoor.PPath
