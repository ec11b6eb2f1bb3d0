/- Contracts of what makes a heap's things: Object. -/
import Derived.Test.YtjbolkkbehfnmaaDoorVK
namespace Go.Proofs.YtjbolkkbehfnmaaDoor.Val
open Go.RowKit Go.Proofs.YtjbolkkbehfnmaaDoor.PVal Go.Proofs.YtjbolkkbehfnmaaDoorW.PrintWords Go.Proofs.YtjbolkkbehfnmaaDoorW.PrintLast Go.Proofs.YtjbolkkbehfnmaaDoorW.PrintMore
open Go.ChangeMaps (setBlock)
set_option linter.unusedVariables false
set_option linter.unusedSimpArgs false
def kvFold (ns : List ByteArray) (l : List S32) : List (ByteArray × S32) := (ns.zip l).foldl (fun kv q => kvPut kv q.1 q.2) []
theorem chg_drew (O : Nat → Prop) (w : World) : Chg O w w.drew := ⟨rfl, rfl, rfl, Nat.le_refl _, fun _ _ _ => rfl⟩
theorem zip_take : ∀ (ns : List ByteArray) (l : List S32) (i : Nat) (h1 : i < ns.length) (h2 : i < l.length), (ns.take (i + 1)).zip (l.take (i + 1)) = (ns.take i).zip (l.take i) ++ [(ns.getD i ByteArray.empty, l.getD i z32)]
  | [], _, _, h1, _ => absurd h1 (Nat.not_lt_zero _)
  | _ :: _, [], _, _, h2 => absurd h2 (Nat.not_lt_zero _)
  | a :: ns, b :: l, 0, _, _ => by simp
  | a :: ns, b :: l, i + 1, h1, h2 => by
    have := zip_take ns l i (by simpa using h1) (by simpa using h2)
    simp only [List.take_succ_cons, List.zip_cons_cons, List.cons_append]
    rw [this]
    simp
theorem kvFold_succ (ns : List ByteArray) (l : List S32) (i : Nat) (h1 : i < ns.length) (h2 : i < l.length) : kvFold (ns.take (i + 1)) (l.take (i + 1)) = kvPut (kvFold (ns.take i) (l.take i)) (rdOf ByteArray.empty ns i) (rd_T32 l i) := by
  unfold kvFold
  rw [zip_take ns l i h1 h2, List.foldl_append]
  rfl
theorem zip_all : ∀ (ns : List ByteArray) (l : List S32) (i : Nat), (ns.length ≤ i ∨ l.length ≤ i) → (ns.take i).zip (l.take i) = ns.zip l
  | [], _, _, _ => by simp
  | _ :: _, [], _, _ => by simp
  | a :: ns, b :: l, 0, h => by simp at h
  | a :: ns, b :: l, i + 1, h => by
    have := zip_all ns l i (by simp at h; omega)
    simp [this]
theorem kvFold_all (ns : List ByteArray) (l : List S32) (i : Nat) (h : ns.length ≤ i ∨ l.length ≤ i) : kvFold (ns.take i) (l.take i) = kvFold ns l := by
  unfold kvFold
  rw [zip_all ns l i h]
theorem mm58 (w : World) : (Instr.makeMap 58 none).run Tryd.prog w = .ok (.map (some w.heap.size)) (w.alloc (.map #[] 0)) := by
  simp [Instr.makeMap, Result.andThen]
attribute [local go_sem] mm58 max2_int min2_int max_two min_two
section
variable {w : World} {O : Nat → Prop} {p : Nat} {v : Value} {xs : List (Bool × Nat)} {Os : Nat → Nat → Prop} {D : List Th}
set_option maxHeartbeats 2000000 in
set_option maxRecDepth 100000 in
theorem mkobj_calls (h : HP w O p D) {A B : Option Addr} {c d : Nat} {ns : List ByteArray} {l : List S32} (hN : Kd.string.C w A ns.length ns) (hC : k32.C w B l.length l) (hmax : l.length < 1000000000000) (hmax2 : ns.length < 1000000000000) (hlen : D.length < 1000000000000) :
    Calls Tryd.prog 13 #[.pointer (some ⟨p, 0, none⟩), .slice A ns.length c, .slice B l.length d] w fun e w' => e = .returned (enc ⟨6, D.length, ⟨#[]⟩⟩) ∧ HP w' (Grow O w w') p (D ++ [.obj (kvFold ns l)]) ∧ Chg O w w' := by
  obtain ⟨v, xs, Os, h⟩ := h
  have HH := Aside0.mk h
  have HNC := Aside0.mk hN
  have HLC := Aside0.mk hC
  have HD := Aside0.mk hlen
  clear h hN hC hlen
  go_enter Tryd.func13, Tryd.ntmps13
  go_wp2
  all_goals
    go_loopw [20] (fun v20 wr => ∃ i : Nat, v20 = .int .i64 i ∧ i ≤ ns.length ∧ i ≤ l.length ∧ (∃ es cc, wr.heap[w.heap.size + 1]? = some (.map es cc) ∧ Ents es (kvFold (ns.take i) (l.take i))) ∧ Chg (fun k => k = w.heap.size + 1) (((w.alloc (.cells #[.int .i64 0, .int .i64 0, .string ⟨#[]⟩] 32)).alloc (.map #[] 0)).alloc (.cells #[.map (some (w.heap.size + 1))] 60)) wr) (fun v20 _ => ns.length - (intOf v20).toNat)
    case atStart => exact ⟨0, rfl, Nat.zero_le _, Nat.zero_le _, ⟨#[], 0, by simpa using blk_alloc (heap_alloc_new (w.alloc (.cells #[.int .i64 0, .int .i64 0, .string ⟨#[]⟩] 32)) (.map #[] 0)) (.cells #[.map (some (w.heap.size + 1))] 60), rfl⟩, Chg.refl _ _⟩
    case round =>
      obtain ⟨i, rfl, hi1, hi2, ⟨es, cc, hm, he⟩, hch⟩ := hrel
      have hbw : Below w.heap.size w wr := (below_alloc (below_alloc (below_alloc (Below.refl _ _) _) _) _).trans (hch.below (by simp; omega) (fun k hk => by omega))
      have hob : wr.heap[w.heap.size + 2]? = some (.cells #[.map (some (w.heap.size + 1))] 60 (0, 0)) := hch.blk (by simpa using heap_alloc_new ((w.alloc (.cells #[.int .i64 0, .int .i64 0, .string ⟨#[]⟩] 32)).alloc (.map #[] 0)) (.cells #[.map (some (w.heap.size + 1))] 60)) (by omega)
      have hrb : wr.heap[w.heap.size]? = some (.cells #[.int .i64 0, .int .i64 0, .string ⟨#[]⟩] 32 (0, 0)) := hch.blk (blk_alloc (blk_alloc (heap_alloc_new w (.cells #[.int .i64 0, .int .i64 0, .string ⟨#[]⟩] 32)) _) _) (by omega)
      have HF := Aside0.mk (And.intro hm (And.intro he (And.intro hch (And.intro hbw (And.intro hob hrb)))))
      clear hm he hch
      by_cases hlt : i < ns.length ∧ i < l.length
      · have d1 : decide ((i : Int) < (l.length : Int)) = true := by simp; omega
        have d2 : decide ((i : Int) < (ns.length : Int)) = true := by simp; omega
        have hc0 : wr.cell? ⟨w.heap.size + 2, 0, none⟩ = some (.map (some (w.heap.size + 1))) := (blk_cell hob 0).trans rfl
        obtain ⟨ad, eA, hx⟩ := Kd.at_string (Kd.C_below HNC.out hbw) (i : Int) (by omega) (by omega)
        obtain ⟨ad2, eB, hy0, hy1, hy2⟩ := at_T32 (Kd.C_below HLC.out hbw) (i : Int) (by omega) (by omega)
        simp only [Int.toNat_natCast] at hx hy0 hy1 hy2
        clear hbw hob hrb
        subst eA
        subst eB
        go_wp2
        go_still_tail 12, (by kernel_rfl)
        change wpList _ _ _ _ _ wr.drew
        obtain ⟨es', c', hrun, he'⟩ := run_put (w := wr.drew) HF.out.1 HF.out.2.1 (rdOf ByteArray.empty ns i) (rd_T32 l i)
        unfold enc at hrun
        have HE' := Aside0.mk he'
        clear he'
        go_wp2
        go_roundw
        case rel => exact ⟨i + 1, by go_num, by omega, by omega, ⟨es', c', ChangeMaps.heap_setBlock_same (w := wr.drew) HF.out.1 _, by rw [kvFold_succ ns l i hlt.1 hlt.2]; exact HE'.out⟩, ((HF.out.2.2.1.trans (chg_drew No wr)).trans (chg_setBlock (O := fun k => k = w.heap.size + 1) wr.drew rfl _)).mono (fun k _ hq => by
            rcases hq with (hq | hq) | hq
            · exact hq
            · exact hq.1.elim
            · exact hq.1)⟩
        case measure => simp [intOf]; omega
      · have d1 : decide ((i : Int) < (l.length : Int)) = false ∨ decide ((i : Int) < (ns.length : Int)) = false := by simp; omega
        have HK := Aside0.mk (kvFold_all ns l i (by omega))
        have hP : PT wr (fun k => w.heap.size ≤ k ∧ k ≠ w.heap.size) (true, w.heap.size + 2) (.obj (kvFold ns l)) := ⟨rfl, ⟨by omega, by omega⟩, w.heap.size + 1, es, cc, hob, ⟨by omega, by omega⟩, HF.out.1, by rw [← HK.out]; exact HF.out.2.1⟩
        have HP_ := Aside0.mk (HH.out.made hbw (Nat.le_refl _) hrb hP 6 HD.out)
        clear hP hbw hob hrb
        go_wp2_with (go_at_call 34; refine HP_.out.mono ?_; rintro e w3 ⟨rfl, hp3, hc3, hb3⟩; unfold enc; obtain ⟨⟨b0, b1, b2⟩, f0, f1, f2⟩ := box3 hb3; have HE := Aside0.mk (And.intro hp3 (And.intro hc3 hb3)); clear hp3 hc3 hb3)
        obtain ⟨hp3, hc3, hb3⟩ := HE.out
        refine bodyPost_ret (results_cell_row rfl _ _ w.heap.size 32 #[.int .i64 6, .int .i64 D.length, .string ⟨#[]⟩] (0, 0) _ rfl (put3 hb3) Tryd.underlying32 rfl (by kernel_rfl)) rfl ⟨rfl, ?_⟩
        exact store_box hp3 hc3
end
end Go.Proofs.YtjbolkkbehfnmaaDoor.Val
