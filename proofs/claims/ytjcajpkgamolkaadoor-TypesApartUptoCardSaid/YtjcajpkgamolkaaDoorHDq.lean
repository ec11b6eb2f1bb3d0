/- HD, as this claim needs it. -/
import Derived.Test.YtjcajpkgamolkaaDoorHBq
namespace Go.Proofs.YtjcajpkgamolkaaDoor.Ty
open Go.RowKit Go.Proofs.YtjcajpkgamolkaaDoor.PTyp
set_option linter.unusedVariables false
set_option linter.unusedSimpArgs false
abbrev Bs := List UInt8
def strip : Bs → Bs → Option Bs
  | [], s => some s
  | a :: p, b :: s => if a = b then strip p s else none
  | _ :: _, [] => none
def isDig (b : UInt8) : Bool := decide (48 ≤ b.toNat ∧ b.toNat ≤ 57)
def isLow (b : UInt8) : Bool := decide (97 ≤ b.toNat ∧ b.toNat ≤ 122)
def numOf : Nat → Bs → Nat
  | v, [] => v
  | v, b :: s => numOf (v * 10 + (b.toNat - 48)) s
def takeW (p : UInt8 → Bool) : Bs → Bs × Bs
  | [] => ([], [])
  | b :: s => if p b then (b :: (takeW p s).1, (takeW p s).2) else ([], b :: s)
theorem takeW_app (p : UInt8 → Bool) : ∀ (x r : Bs), (∀ b ∈ x, p b = true) → (∀ b s, r = b :: s → p b = false) → takeW p (x ++ r) = (x, r)
  | [], r, _, h => by
    cases r with
    | nil => rfl
    | cons b s => rw [List.nil_append, takeW, h b s rfl]; rfl
  | b :: x, r, hx, h => by rw [List.cons_append, takeW, if_pos (hx b (by simp)), takeW_app p x r (fun c hc => hx c (by simp [hc])) h]
def post : Ty → Bs → Ty × Bs
  | x, 91 :: 93 :: s => post ⟨7, 0, [], [x]⟩ s
  | x, s => (x, s)
def numAt (k : Int) (s : Bs) : Ty × Bs := (⟨k, (numOf 0 (takeW isDig s).1 : Nat), [], []⟩, (takeW isDig s).2)
def tab : List (Bs × Int) := [([97, 110, 121], 1), ([110, 117, 109, 98, 101, 114], 2), ([115, 116, 114, 105, 110, 103], 3), ([98, 111, 111, 108, 101, 97, 110], 4), ([110, 117, 108, 108], 5), ([117, 110, 100, 101, 102, 105, 110, 101, 100], 6), ([105, 110, 115, 116, 35], 11), ([99, 108, 97, 115, 115, 35], 12), ([115, 112, 97, 99, 101, 35], 13)]
def look : List (Bs × Int) → Bs → Option (Int × Bs)
  | [], _ => none
  | (p, k) :: t, s => match strip p s with
    | some r => some (k, r)
    | none => look t s
mutual
def full : Nat → Bs → Option (Ty × Bs)
  | 0, _ => none
  | k + 1, s =>
    match strip [40] s with
    | some s1 =>
      match strip [41, 32, 61, 62, 32] s1 with
      | some s2 => (full k s2).map fun p => (⟨9, 0, [], [p.1]⟩, p.2)
      | none =>
        (full k s1).bind fun x =>
          match strip [41] x.2 with
          | some s3 =>
            match strip [32, 61, 62, 32] s3 with
            | some s4 => (full k s4).map fun p => (⟨9, 0, [], [x.1, p.1]⟩, p.2)
            | none => union k (post x.1 s3)
          | none => (params k x.2).bind fun xs => (full k xs.2).map fun p => (⟨9, 0, [], x.1 :: xs.1 ++ [p.1]⟩, p.2)
    | none => (atom k s).bind fun x => union k (post x.1 x.2)
def params : Nat → Bs → Option (List Ty × Bs)
  | 0, _ => none
  | k + 1, s =>
    match strip [44, 32] s with
    | some s1 => (full k s1).bind fun x => (params k x.2).map fun xs => (x.1 :: xs.1, xs.2)
    | none => (strip [41, 32, 61, 62, 32] s).map fun r => ([], r)
def union : Nat → Ty × Bs → Option (Ty × Bs)
  | 0, _ => none
  | k + 1, x =>
    match strip [32, 124, 32] x.2 with
    | some s1 => (members k s1).map fun p => (⟨10, 0, [], x.1 :: p.1⟩, p.2)
    | none => some x
def members : Nat → Bs → Option (List Ty × Bs)
  | 0, _ => none
  | k + 1, s =>
    (memb k s).bind fun x =>
      match strip [32, 124, 32] x.2 with
      | some s1 => (members k s1).map fun p => (x.1 :: p.1, p.2)
      | none => some ([x.1], x.2)
def memb : Nat → Bs → Option (Ty × Bs)
  | 0, _ => none
  | k + 1, s =>
    match strip [40] s with
    | some s1 => (full k s1).bind fun x => (strip [41] x.2).map fun r => post x.1 r
    | none => (atom k s).map fun x => post x.1 x.2
def atom : Nat → Bs → Option (Ty × Bs)
  | 0, _ => none
  | k + 1, s =>
    match strip [123] s with
    | some s1 =>
      match strip [125] s1 with
      | some r => some (⟨8, 0, [], []⟩, r)
      | none => (fields k s1).map fun p => (⟨8, 0, p.1.1, p.1.2⟩, p.2)
    | none => (look tab s).map fun p => if p.1 ≤ 6 then (⟨p.1, 0, [], []⟩, p.2) else numAt p.1 p.2
def fields : Nat → Bs → Option ((List ByteArray × List Ty) × Bs)
  | 0, _ => none
  | k + 1, s =>
    match strip [32, 125] s with
    | some r => some (([], []), r)
    | none =>
      (strip [32] s).bind fun s1 =>
        (strip [58, 32] (takeW isLow s1).2).bind fun s2 =>
          (full k s2).bind fun x =>
            (strip [59] x.2).bind fun s3 =>
              (fields k s3).map fun p => ((⟨(takeW isLow s1).1.toArray⟩ :: p.1.1, x.1 :: p.1.2), p.2)
end
def shL (t : Ty) : Bs := (showT t).data.toList
def brL (x : Bs) : Bs := 40 :: (x ++ [41])
def inL (ks : List Int) (t : Ty) : Bs := if t.f0 ∈ ks then brL (shL t) else shL t
def slL : List ByteArray → List Ty → Bs
  | n :: ns, t :: l => 32 :: (n.data.toList ++ 58 :: 32 :: (shL t ++ 59 :: slL ns l))
  | _, _ => []
def markL (k : Int) : Bs := if k = 11 then [105, 110, 115, 116, 35] else if k = 12 then [99, 108, 97, 115, 115, 35] else [115, 112, 97, 99, 101, 35]
theorem dl_app (a b : ByteArray) : (a ++ b).data.toList = a.data.toList ++ b.data.toList := by simp
theorem inT_list (ks : List Int) (t : Ty) : (inT ks t).data.toList = inL ks t := by
  unfold inL; rw [inT_is]
  split
  · unfold brackB; rw [dl_app, dl_app]; simp [brL, shL]
  · rfl
theorem slots_list : ∀ (ns : List ByteArray) (l : List Ty), (slotsB ns ((l.map pairT).map (withinB []))).data.toList = slL ns l
  | [], l => by cases l <;> rfl
  | n :: ns, [] => rfl
  | n :: ns, t :: l => by
    have := slots_list ns l
    simp only [List.map_cons, slotsB, slL, dl_app, this]
    unfold slotB
    simp only [dl_app]
    simp [withinB, pairT, shL]
theorem join_map (ks : List Int) (l : List Ty) : ((l.map pairT).map (withinB ks)).map (fun x : ByteArray => x.data.toList) = l.map (inL ks) := by
  rw [List.map_map, List.map_map]
  apply List.map_congr_left
  intro t _
  exact inT_list ks t
theorem inL_nil (t : Ty) : inL [] t = shL t := by unfold inL; simp
theorem sh_list {n : Int} {ns : List ByteArray} (y : Ty) : shL ⟨7, n, ns, [y]⟩ = inL [10, 9] y ++ [91, 93] := by
  unfold shL; rw [showT_is]; unfold showK
  simp only [if_true, List.map_cons, List.map_nil, List.headD_cons, dl_app]
  rw [← inT_list]; rfl
theorem sh_rec {n : Int} {ns : List ByteArray} {l : List Ty} : shL ⟨8, n, ns, l⟩ = 123 :: (slL ns l ++ (if l = [] then [125] else [32, 125])) := by
  unfold shL; rw [showT_is]; unfold showK
  rw [if_neg (by simp), if_pos (by simp)]
  unfold recB
  simp only
  cases l with
  | nil => simp [slotsB, slL, ← slots_list]
  | cons a r =>
    rw [if_pos (by simp)]
    simp only [dl_app]
    rw [slots_list]
    simp
theorem sh_fn {n : Int} {ns : List ByteArray} (ps : List Ty) (q : Ty) : shL ⟨9, n, ns, ps ++ [q]⟩ = 40 :: (Lib.join (ps.map shL) [44, 32] ++ [41, 32, 61, 62, 32] ++ shL q) := by
  unfold shL; rw [showT_is]; unfold showK
  rw [if_neg (by simp), if_neg (by simp), if_pos (by simp)]
  have e1 : (((ps ++ [q]).map pairT).take (((ps ++ [q]).map pairT).length - 1)) = ps.map pairT := by simp
  have e2 : (((ps ++ [q]).map pairT).getLastD (0, ⟨#[]⟩)) = pairT q := by simp
  show (_ ++ _ : ByteArray).data.toList = _
  rw [e1, e2, dl_app, dl_app, dl_app]
  unfold joinB
  rw [join_map []]
  have e3 : ps.map (inL []) = ps.map shL := List.map_congr_left fun t _ => inL_nil t
  rw [e3]
  simp [pairT]
  rfl
theorem sh_either {n : Int} {ns : List ByteArray} (l : List Ty) : shL ⟨10, n, ns, l⟩ = Lib.join (l.map (inL [9])) [32, 124, 32] := by
  unfold shL; rw [showT_is]; unfold showK
  rw [if_neg (by simp), if_neg (by simp), if_neg (by simp), if_pos (by simp)]
  unfold joinB
  rw [join_map [9]]
theorem sh_ref {k n : Int} {ns : List ByteArray} {l : List Ty} (h1 : 11 ≤ k) : shL ⟨k, n, ns, l⟩ = markL k ++ Lib.itoa n := by
  unfold shL; rw [showT_is]; unfold showK
  simp only
  rw [if_neg (by omega), if_neg (by omega), if_neg (by omega), if_neg (by omega), if_pos h1]
  rw [dl_app, dl_app]
  unfold markB markL itoaB
  split
  · simp
  · split <;> simp
theorem sh_word {k n : Int} {ns : List ByteArray} {l : List Ty} (h1 : 1 ≤ k) (h2 : k ≤ 6) : shL ⟨k, n, ns, l⟩ = (wordB k).data.toList := by
  unfold shL; rw [showT_is]; unfold showK
  simp only
  rw [if_neg (by omega), if_neg (by omega), if_neg (by omega), if_neg (by omega), if_neg (by omega)]
end Go.Proofs.YtjcajpkgamolkaaDoor.Ty
namespace Go.Proofs.YtjcajpkgamolkaaDoor.Ty
open Go.RowKit Go.Proofs.YtjcajpkgamolkaaDoor.PTyp
set_option linter.unusedVariables false
set_option linter.unusedSimpArgs false
def lowB (n : ByteArray) : Prop := n.data.toList ≠ [] ∧ ∀ b ∈ n.data.toList, isLow b = true
inductive Good : Ty → Prop
  | word (k : Int) : 1 ≤ k → k ≤ 6 → Good ⟨k, 0, [], []⟩
  | list (y : Ty) : Good y → Good ⟨7, 0, [], [y]⟩
  | recd (ns : List ByteArray) (l : List Ty) : ns.length = l.length → (∀ n ∈ ns, lowB n) → (∀ y ∈ l, Good y) → Good ⟨8, 0, ns, l⟩
  | fn (ps : List Ty) (q : Ty) : (∀ y ∈ ps, Good y) → Good q → Good ⟨9, 0, [], ps ++ [q]⟩
  | either (l : List Ty) : 2 ≤ l.length → (∀ y ∈ l, y.f0 ≠ 10) → (∀ y ∈ l, Good y) → Good ⟨10, 0, [], l⟩
  | ref (k n : Int) : 11 ≤ k → k ≤ 13 → 0 ≤ n → Good ⟨k, n, [], []⟩
abbrev E (t : Ty) : Bs := inL [10, 9] t
def TR (r : Bs) : Prop := ∀ b s, r = b :: s → b = 59 ∨ b = 44 ∨ b = 41
def FR (r : Bs) : Prop := (∀ b s, r = b :: s → b = 59 ∨ b = 44 ∨ b = 41 ∨ b = 91 ∨ b = 32) ∧ strip [32, 61, 62, 32] r = none
theorem TR.fr {r : Bs} (h : TR r) : FR r := by
  refine ⟨fun b s e => by rcases h b s e with h | h | h <;> simp [h], ?_⟩
  cases r with
  | nil => rfl
  | cons b s => rw [strip, if_neg]; rcases h b s rfl with h | h | h <;> subst h <;> decide
theorem FR.or (s : Bs) : FR (32 :: 124 :: 32 :: s) := ⟨fun b s e => by injection e with e _; subst e; simp, by simp [strip]⟩
theorem FR.sq (s : Bs) : FR (91 :: 93 :: s) := ⟨fun b s e => by injection e with e _; subst e; simp, by simp [strip]⟩
theorem post_stop {t : Ty} {r : Bs} (h : ∀ s, r ≠ 91 :: 93 :: s) : post t r = (t, r) := by
  match r with
  | [] => rfl
  | [a] => by_cases ha : a = 91 <;> simp [post]
  | a :: b :: s =>
    by_cases ha : a = 91
    · by_cases hb : b = 93
      · subst ha; subst hb; exact absurd rfl (h s)
      · rw [post]
        intro s' e
        injection e with _ e
        injection e with e _
        exact hb e
    · rw [post]
      intro s' e
      injection e with e _
      exact ha e
theorem post_sq (t : Ty) (s : Bs) : post t (91 :: 93 :: s) = post ⟨7, 0, [], [t]⟩ s := by rw [post]
theorem post_tr {t : Ty} {r : Bs} (h : TR r) : post t r = (t, r) := post_stop fun s e => by rcases h _ _ e with h | h | h <;> exact absurd h (by decide)
theorem post_or (t : Ty) (s : Bs) : post t (32 :: s) = (t, 32 :: s) := post_stop fun s e => by injection e with e _; exact absurd e (by decide)
theorem union_tr {t : Ty} {r : Bs} (h : TR r) (k : Nat) : union (k + 1) (t, r) = some (t, r) := by
  rw [union]
  cases r with
  | nil => rfl
  | cons b s =>
    have : strip [32, 124, 32] (b :: s) = none := by rw [strip, if_neg]; rcases h b s rfl with h | h | h <;> subst h <;> decide
    simp only [this]
def Hd (t : Ty) : Prop := ∃ b s, shL t = b :: s ∧ b ≠ 41
structure P (t : Ty) : Prop where
  hd : Hd t
  one : ∃ K, ∀ k, K ≤ k → ∀ r, TR r → full k (shL t ++ r) = some (t, r)
  two : ∃ K, ∀ k, K ≤ k → ∀ r, FR r → full (k + 1) (E t ++ r) = union k (post t r)
  three : ∃ K, ∀ k, K ≤ k → ∀ r, FR r → memb (k + 1) (E t ++ r) = some (post t r)
theorem strip_close {b : UInt8} (h : b ≠ 41) (s : Bs) : strip [41, 32, 61, 62, 32] (b :: s) = none := by rw [strip, if_neg (fun e => h e.symm)]
theorem two_br {t : Ty} (hE : E t = brL (shL t)) (hd : Hd t) (h : ∃ K, ∀ k, K ≤ k → ∀ r, TR r → full k (shL t ++ r) = some (t, r)) :
    (∃ K, ∀ k, K ≤ k → ∀ r, FR r → full (k + 1) (E t ++ r) = union k (post t r)) ∧ ∃ K, ∀ k, K ≤ k → ∀ r, FR r → memb (k + 1) (E t ++ r) = some (post t r) := by
  obtain ⟨K, hK⟩ := h
  obtain ⟨b, s, e, hb⟩ := hd
  have e2 : ∀ r, E t ++ r = 40 :: (shL t ++ (41 :: r)) := fun r => by rw [hE]; simp [brL]
  have ht : ∀ r : Bs, TR (41 :: r) := fun r b s e => by injection e with e _; subst e; simp
  have h1 : ∀ r : Bs, strip [40] (40 :: r) = some r := fun r => rfl
  have h2 : ∀ r : Bs, strip [41] (41 :: r) = some r := fun r => rfl
  refine ⟨⟨K, fun k hk r hr => ?_⟩, K, fun k hk r hr => ?_⟩
  · rw [e2, full]
    simp only [h1]
    have h3 : strip [41, 32, 61, 62, 32] (shL t ++ (41 :: r)) = none := by rw [e, List.cons_append]; exact strip_close hb _
    simp only [h3]
    rw [hK k hk _ (ht r)]
    simp only [Option.bind_some, h2, hr.2]
  · rw [e2, memb]
    simp only [h1]
    rw [hK k hk _ (ht r)]
    simp only [Option.bind_some, h2, Option.map_some]
theorem two_at {t : Ty} (hE : E t = shL t) (hd : ∃ b s, shL t = b :: s ∧ b ≠ 40) (h : ∃ K, ∀ k, K ≤ k → ∀ r, FR r → atom k (shL t ++ r) = some (t, r)) :
    (∃ K, ∀ k, K ≤ k → ∀ r, FR r → full (k + 1) (E t ++ r) = union k (post t r)) ∧ ∃ K, ∀ k, K ≤ k → ∀ r, FR r → memb (k + 1) (E t ++ r) = some (post t r) := by
  obtain ⟨K, hK⟩ := h
  obtain ⟨b, s, e, hb⟩ := hd
  have h1 : ∀ r, strip [40] (shL t ++ r) = none := fun r => by rw [e, List.cons_append, strip, if_neg (fun e => hb e.symm)]
  refine ⟨⟨K, fun k hk r hr => ?_⟩, K, fun k hk r hr => ?_⟩
  · rw [hE, full]
    simp only [h1]
    rw [hK k hk r hr]
    rfl
  · rw [hE, memb]
    simp only [h1]
    rw [hK k hk r hr]
    rfl
theorem one_of_two {t : Ty} (hE : E t = shL t) (h : ∃ K, ∀ k, K ≤ k → ∀ r, FR r → full (k + 1) (E t ++ r) = union k (post t r)) : ∃ K, ∀ k, K ≤ k → ∀ r, TR r → full k (shL t ++ r) = some (t, r) := by
  obtain ⟨K, hK⟩ := h
  refine ⟨K + 2, fun k hk r hr => ?_⟩
  obtain ⟨k', rfl⟩ : ∃ k', k = k' + 2 := ⟨k - 2, by omega⟩
  rw [← hE, hK (k' + 1) (by omega) r hr.fr, post_tr hr, union_tr hr]
theorem E_out {t : Ty} (h1 : t.f0 ≠ 10) (h2 : t.f0 ≠ 9) : E t = shL t := by unfold E inL; rw [if_neg (by simp [h1, h2])]
theorem E_in {t : Ty} (h : t.f0 = 10 ∨ t.f0 = 9) : E t = brL (shL t) := by unfold E inL; rw [if_pos (by simpa using h)]
theorem P.of_atom {t : Ty} (h1 : t.f0 ≠ 10) (h2 : t.f0 ≠ 9) (hd : ∃ b s, shL t = b :: s ∧ b ≠ 40 ∧ b ≠ 41) (h : ∃ K, ∀ k, K ≤ k → ∀ r, FR r → atom k (shL t ++ r) = some (t, r)) : P t := by
  obtain ⟨b, s, e, hb, hb'⟩ := hd
  have h3 := two_at (E_out h1 h2) ⟨b, s, e, hb⟩ h
  exact ⟨⟨b, s, e, hb'⟩, one_of_two (E_out h1 h2) h3.1, h3.1, h3.2⟩
theorem P.of_br {t : Ty} (h0 : t.f0 = 10 ∨ t.f0 = 9) (hd : Hd t) (h : ∃ K, ∀ k, K ≤ k → ∀ r, TR r → full k (shL t ++ r) = some (t, r)) : P t := by
  have h3 := two_br (E_in h0) hd h
  exact ⟨hd, h, h3.1, h3.2⟩
theorem p_word (k : Int) (h1 : 1 ≤ k) (h2 : k ≤ 6) : P ⟨k, 0, [], []⟩ := by
  have hk : k = 1 ∨ k = 2 ∨ k = 3 ∨ k = 4 ∨ k = 5 ∨ k = 6 := by omega
  refine P.of_atom (show k ≠ 10 by omega) (show k ≠ 9 by omega) ?_ ⟨1, fun n hn r _ => ?_⟩
  · rw [sh_word h1 h2]
    rcases hk with rfl | rfl | rfl | rfl | rfl | rfl <;> exact ⟨_, _, rfl, by decide, by decide⟩
  · obtain ⟨m, rfl⟩ : ∃ m, n = m + 1 := ⟨n - 1, by omega⟩
    rw [sh_word h1 h2, atom]
    rcases hk with rfl | rfl | rfl | rfl | rfl | rfl <;> simp [wordB, strip, look, tab]
theorem dig_of (u : Nat) (h : u < 10) : isDig (UInt8.ofNat (48 + u)) = true ∧ (UInt8.ofNat (48 + u)).toNat - 48 = u := by
  have : u = 0 ∨ u = 1 ∨ u = 2 ∨ u = 3 ∨ u = 4 ∨ u = 5 ∨ u = 6 ∨ u = 7 ∨ u = 8 ∨ u = 9 := by omega
  rcases this with rfl | rfl | rfl | rfl | rfl | rfl | rfl | rfl | rfl | rfl <;> decide
theorem dig_all (u : Nat) : ∀ b ∈ Lib.decDigits u, isDig b = true := by
  induction u using Nat.strongRecOn with
  | _ u ih =>
    rw [Lib.decDigits]
    split
    · rename_i hu
      intro b hb
      rw [List.mem_singleton] at hb
      subst hb
      exact (dig_of u hu).1
    · intro b hb
      rw [List.mem_append, List.mem_singleton] at hb
      rcases hb with hb | rfl
      · exact ih _ (by omega) b hb
      · exact (dig_of _ (by omega)).1
theorem numOf_append : ∀ (a b : Bs) (v : Nat), numOf v (a ++ b) = numOf (numOf v a) b
  | [], b, v => rfl
  | x :: a, b, v => numOf_append a b (v * 10 + (x.toNat - 48))
theorem numOf_one (v : Nat) (b : UInt8) : numOf v [b] = v * 10 + (b.toNat - 48) := rfl
theorem num_dig (u : Nat) : numOf 0 (Lib.decDigits u) = u := by
  induction u using Nat.strongRecOn with
  | _ u ih =>
    rw [Lib.decDigits]
    split
    · rename_i hu
      rw [numOf_one, (dig_of u hu).2]; omega
    · rw [numOf_append, ih _ (by omega), numOf_one, (dig_of _ (by omega)).2]; omega
theorem p_ref (k n : Int) (h1 : 11 ≤ k) (h2 : k ≤ 13) (h3 : 0 ≤ n) : P ⟨k, n, [], []⟩ := by
  have hk : k = 11 ∨ k = 12 ∨ k = 13 := by omega
  refine P.of_atom (show k ≠ 10 by omega) (show k ≠ 9 by omega) ?_ ⟨1, fun m hm r hr => ?_⟩
  · rw [sh_ref h1]
    rcases hk with rfl | rfl | rfl <;> exact ⟨_, _, rfl, by decide, by decide⟩
  · obtain ⟨m, rfl⟩ : ∃ j, m = j + 1 := ⟨m - 1, by omega⟩
    obtain ⟨u, rfl⟩ := Int.eq_ofNat_of_zero_le h3
    have hi : Lib.itoa ((u : Nat) : Int) = Lib.decDigits u := Lib.itoa_nonneg u
    have ht : takeW isDig (Lib.decDigits u ++ r) = (Lib.decDigits u, r) := takeW_app _ _ _ (dig_all u) (fun b s e => by rcases hr.1 b s e with h | h | h | h | h <;> subst h <;> decide)
    rw [sh_ref h1, hi, atom]
    rcases hk with rfl | rfl | rfl <;> simp [markL, strip, look, tab, numAt, ht, num_dig]
theorem E_hd {t : Ty} (h : Hd t) : ∃ b s, E t = b :: s ∧ b ≠ 41 := by
  unfold E inL
  split
  · exact ⟨40, _, rfl, by decide⟩
  · exact h
theorem p_list (y : Ty) (h : P y) : P ⟨7, 0, [], [y]⟩ := by
  have hE : E ⟨7, 0, [], [y]⟩ = shL ⟨7, 0, [], [y]⟩ := E_out (show (7 : Int) ≠ 10 by decide) (show (7 : Int) ≠ 9 by decide)
  obtain ⟨b, s, e, hb⟩ := E_hd h.hd
  have e2 : ∀ r, E ⟨7, 0, [], [y]⟩ ++ r = E y ++ (91 :: 93 :: r) := fun r => by rw [hE, sh_list]; simp
  have h2 : ∃ K, ∀ k, K ≤ k → ∀ r, FR r → full (k + 1) (E ⟨7, 0, [], [y]⟩ ++ r) = union k (post ⟨7, 0, [], [y]⟩ r) := by
    obtain ⟨K, hK⟩ := h.two
    exact ⟨K, fun k hk r hr => by rw [e2, hK k hk _ (FR.sq r), post_sq]⟩
  refine ⟨⟨b, s ++ [91, 93], by rw [sh_list]; show E y ++ _ = _; rw [e]; rfl, hb⟩, one_of_two hE h2, h2, ?_⟩
  obtain ⟨K, hK⟩ := h.three
  exact ⟨K, fun k hk r hr => by rw [e2, hK k hk _ (FR.sq r), post_sq]⟩
theorem fields_ev : ∀ (ns : List ByteArray) (l : List Ty), ns.length = l.length → (∀ n ∈ ns, lowB n) → (∀ y ∈ l, P y) → ∃ K, ∀ k, K ≤ k → ∀ r, fields k (slL ns l ++ (32 :: 125 :: r)) = some ((ns, l), r)
  | [], [], _, _, _ => ⟨1, fun k hk r => by
    obtain ⟨m, rfl⟩ : ∃ j, k = j + 1 := ⟨k - 1, by omega⟩
    rw [slL, fields]
    · simp [strip]
    · intro _ _ _ _ h; cases h⟩
  | [], _ :: _, h, _, _ => by simp at h
  | _ :: _, [], h, _, _ => by simp at h
  | n :: ns, t :: l, h, hn, hl => by
    obtain ⟨K1, hK1⟩ := fields_ev ns l (by simpa using h) (fun x hx => hn x (by simp [hx])) (fun x hx => hl x (by simp [hx]))
    obtain ⟨K2, hK2⟩ := (hl t (by simp)).one
    refine ⟨K1 + K2 + 1, fun k hk r => ?_⟩
    obtain ⟨m, rfl⟩ : ∃ j, k = j + 1 := ⟨k - 1, by omega⟩
    obtain ⟨hne, hlow⟩ := hn n (by simp)
    obtain ⟨b, s, e⟩ : ∃ b s, n.data.toList = b :: s := by
      cases hh : n.data.toList with
      | nil => exact absurd hh hne
      | cons b s => exact ⟨b, s, rfl⟩
    have hb : ¬ (125 : UInt8) = b := fun h => by have := hlow b (by rw [e]; simp); subst h; revert this; decide
    have e0 : slL (n :: ns) (t :: l) ++ (32 :: 125 :: r) = 32 :: (n.data.toList ++ (58 :: 32 :: (shL t ++ (59 :: (slL ns l ++ (32 :: 125 :: r)))))) := by simp [slL]
    have h1 : strip [32, 125] (32 :: (n.data.toList ++ (58 :: 32 :: (shL t ++ (59 :: (slL ns l ++ (32 :: 125 :: r))))))) = none := by
      rw [e, strip, if_pos rfl, List.cons_append, strip, if_neg hb]
    have h2 : takeW isLow (n.data.toList ++ (58 :: 32 :: (shL t ++ (59 :: (slL ns l ++ (32 :: 125 :: r)))))) = (n.data.toList, 58 :: 32 :: (shL t ++ (59 :: (slL ns l ++ (32 :: 125 :: r))))) :=
      takeW_app _ _ _ hlow (fun b s e => by injection e with e _; subst e; decide)
    have h3 : ∀ x : Bs, strip [32] (32 :: x) = some x := fun x => rfl
    have h4 : ∀ x : Bs, strip [58, 32] (58 :: 32 :: x) = some x := fun x => rfl
    have h5 : ∀ x : Bs, strip [59] (59 :: x) = some x := fun x => rfl
    rw [e0, fields]
    simp only [h1, h3, Option.bind_some, h2, h4]
    rw [hK2 m (by omega) _ (fun b s e => by injection e with e _; subst e; simp)]
    simp only [Option.bind_some, h5]
    rw [hK1 m (by omega)]
    simp
theorem p_recd (ns : List ByteArray) (l : List Ty) (h : ns.length = l.length) (hn : ∀ n ∈ ns, lowB n) (hl : ∀ y ∈ l, P y) : P ⟨8, 0, ns, l⟩ := by
  obtain ⟨K, hK⟩ := fields_ev ns l h hn hl
  refine P.of_atom (show (8 : Int) ≠ 10 by decide) (show (8 : Int) ≠ 9 by decide) ?_ ⟨K + 1, fun k hk r hr => ?_⟩
  · rw [sh_rec]; exact ⟨_, _, rfl, by decide, by decide⟩
  · obtain ⟨m, rfl⟩ : ∃ j, k = j + 1 := ⟨k - 1, by omega⟩
    rw [sh_rec, atom]
    have h3 : ∀ x : Bs, strip [123] (123 :: x) = some x := fun x => rfl
    rw [List.cons_append]
    simp only [h3]
    cases l with
    | nil =>
      obtain rfl : ns = [] := List.eq_nil_of_length_eq_zero (by simpa using h)
      simp [slL, strip]
    | cons t l =>
      cases ns with
      | nil => simp at h
      | cons n ns =>
        rw [if_neg (by simp)]
        have h4 : ∀ x, strip [125] (slL (n :: ns) (t :: l) ++ x) = none := fun x => by simp [slL, strip]
        have e : slL (n :: ns) (t :: l) ++ [32, 125] ++ r = slL (n :: ns) (t :: l) ++ (32 :: 125 :: r) := by simp
        rw [e]
        simp only [h4]
        rw [hK m (by omega)]
        rfl
def pre (l : List Ty) : Bs := l.flatMap fun y => 44 :: 32 :: shL y
theorem join_pre : ∀ (l : List Ty) (x : Ty), Lib.join ((x :: l).map shL) [44, 32] = shL x ++ pre l
  | [], x => by simp [Lib.join, pre]
  | y :: l, x => by
    have := join_pre l y
    simp only [List.map_cons, pre, List.flatMap_cons] at this ⊢
    rw [join_two, this]
    simp
theorem TR.arrow (r : Bs) : TR (41 :: r) := fun b s e => by injection e with e _; subst e; simp
theorem pre_tr (l : List Ty) (r : Bs) : TR (pre l ++ (41 :: r)) := by
  cases l with
  | nil => exact TR.arrow r
  | cons y l => intro b s e; simp only [pre, List.flatMap_cons, List.cons_append] at e; injection e with e _; subst e; simp
theorem params_ev : ∀ (l : List Ty), (∀ y ∈ l, P y) → ∃ K, ∀ k, K ≤ k → ∀ r, params k (pre l ++ (41 :: 32 :: 61 :: 62 :: 32 :: r)) = some (l, r)
  | [], _ => ⟨1, fun k hk r => by
    obtain ⟨m, rfl⟩ : ∃ j, k = j + 1 := ⟨k - 1, by omega⟩
    rw [params]; simp [pre, strip]⟩
  | y :: l, h => by
    obtain ⟨K1, hK1⟩ := params_ev l (fun x hx => h x (by simp [hx]))
    obtain ⟨K2, hK2⟩ := (h y (by simp)).one
    refine ⟨K1 + K2 + 1, fun k hk r => ?_⟩
    obtain ⟨m, rfl⟩ : ∃ j, k = j + 1 := ⟨k - 1, by omega⟩
    have e : pre (y :: l) ++ (41 :: 32 :: 61 :: 62 :: 32 :: r) = 44 :: 32 :: (shL y ++ (pre l ++ (41 :: 32 :: 61 :: 62 :: 32 :: r))) := by simp [pre]
    have h3 : ∀ x : Bs, strip [44, 32] (44 :: 32 :: x) = some x := fun x => rfl
    rw [e, params]
    simp only [h3]
    rw [hK2 m (by omega) _ (pre_tr l _)]
    simp only [Option.bind_some]
    rw [hK1 m (by omega)]
    rfl
theorem p_fn (ps : List Ty) (q : Ty) (h : ∀ y ∈ ps, P y) (hq : P q) : P ⟨9, 0, [], ps ++ [q]⟩ := by
  refine P.of_br (Or.inr rfl) ⟨_, _, sh_fn ps q, by decide⟩ ?_
  obtain ⟨K1, hK1⟩ := hq.one
  have h1 : ∀ x : Bs, strip [40] (40 :: x) = some x := fun x => rfl
  have h2 : ∀ x : Bs, strip [41] (41 :: x) = some x := fun x => rfl
  have h3 : ∀ x : Bs, strip [32, 61, 62, 32] (32 :: 61 :: 62 :: 32 :: x) = some x := fun x => rfl
  have h4 : ∀ x : Bs, strip [41, 32, 61, 62, 32] (41 :: 32 :: 61 :: 62 :: 32 :: x) = some x := fun x => rfl
  cases ps with
  | nil =>
    refine ⟨K1 + 1, fun k hk r hr => ?_⟩
    obtain ⟨m, rfl⟩ : ∃ j, k = j + 1 := ⟨k - 1, by omega⟩
    have e : shL ⟨9, 0, [], [] ++ [q]⟩ ++ r = 40 :: (41 :: 32 :: 61 :: 62 :: 32 :: (shL q ++ r)) := by rw [sh_fn]; simp [Lib.join]
    rw [e, full]
    simp only [h1, h4]
    rw [hK1 m (by omega) r hr]
    rfl
  | cons x ps =>
    obtain ⟨K2, hK2⟩ := (h x (by simp)).one
    obtain ⟨K3, hK3⟩ := params_ev ps (fun y hy => h y (by simp [hy]))
    refine ⟨K1 + K2 + K3 + 1, fun k hk r hr => ?_⟩
    obtain ⟨m, rfl⟩ : ∃ j, k = j + 1 := ⟨k - 1, by omega⟩
    have e : shL ⟨9, 0, [], (x :: ps) ++ [q]⟩ ++ r = 40 :: (shL x ++ (pre ps ++ (41 :: 32 :: 61 :: 62 :: 32 :: (shL q ++ r)))) := by rw [sh_fn, join_pre]; simp
    obtain ⟨b, s, eb, hb⟩ := (h x (by simp)).hd
    have h5 : ∀ z : Bs, strip [41, 32, 61, 62, 32] (shL x ++ z) = none := fun z => by rw [eb, List.cons_append]; exact strip_close hb _
    rw [e, full]
    simp only [h1, h5]
    rw [hK2 m (by omega) _ (pre_tr ps _)]
    simp only [Option.bind_some]
    cases ps with
    | nil =>
      simp only [pre, List.flatMap_nil, List.nil_append, h2, h3]
      rw [hK1 m (by omega) r hr]
      rfl
    | cons y ps =>
      have h6 : strip [41] (pre (y :: ps) ++ (41 :: 32 :: 61 :: 62 :: 32 :: (shL q ++ r))) = none := by simp [pre, strip]
      simp only [h6]
      rw [hK3 m (by omega)]
      simp only [Option.bind_some]
      rw [hK1 m (by omega) r hr]
      rfl
theorem nine_E {t : Ty} (h : t.f0 ≠ 10) : inL [9] t = E t := by
  unfold E inL
  by_cases h9 : t.f0 = 9
  · rw [if_pos (by simp [h9]), if_pos (by simp [h9])]
  · rw [if_neg (by simp [h9]), if_neg (by simp [h9, h])]
def oth (l : List Ty) : Bs := l.flatMap fun y => 32 :: 124 :: 32 :: E y
theorem join_oth : ∀ (l : List Ty) (x : Ty), (∀ y ∈ x :: l, y.f0 ≠ 10) → Lib.join ((x :: l).map (inL [9])) [32, 124, 32] = E x ++ oth l
  | [], x, h => by simp [Lib.join, oth, nine_E (h x (by simp))]
  | y :: l, x, h => by
    have := join_oth l y (fun z hz => h z (by simp at hz ⊢; rcases hz with h | h <;> simp [h]))
    simp only [List.map_cons, oth, List.flatMap_cons] at this ⊢
    rw [join_two, this, nine_E (h x (by simp))]
    simp
theorem members_ev : ∀ (l : List Ty) (y : Ty), (∀ z ∈ y :: l, P z) → ∃ K, ∀ k, K ≤ k → ∀ r, TR r → members k (E y ++ (oth l ++ r)) = some (y :: l, r)
  | [], y, h => by
    obtain ⟨K2, hK2⟩ := (h y (by simp)).three
    refine ⟨K2 + 2, fun k hk r hr => ?_⟩
    obtain ⟨m, rfl⟩ : ∃ j, k = j + 2 := ⟨k - 2, by omega⟩
    rw [members]
    simp only [oth, List.flatMap_nil, List.nil_append]
    rw [hK2 m (by omega) r hr.fr, post_tr hr]
    simp only [Option.bind_some]
    have : strip [32, 124, 32] r = none := by
      cases r with
      | nil => rfl
      | cons b s => rw [strip, if_neg]; rcases hr b s rfl with h | h | h <;> subst h <;> decide
    simp only [this]
  | z :: l, y, h => by
    obtain ⟨K1, hK1⟩ := members_ev l z (fun x hx => h x (by simp at hx ⊢; rcases hx with h | h <;> simp [h]))
    obtain ⟨K2, hK2⟩ := (h y (by simp)).three
    refine ⟨K1 + K2 + 2, fun k hk r hr => ?_⟩
    obtain ⟨m, rfl⟩ : ∃ j, k = j + 2 := ⟨k - 2, by omega⟩
    have e : oth (z :: l) ++ r = 32 :: 124 :: 32 :: (E z ++ (oth l ++ r)) := by simp [oth]
    have h3 : ∀ x : Bs, strip [32, 124, 32] (32 :: 124 :: 32 :: x) = some x := fun x => rfl
    rw [members, e]
    rw [hK2 m (by omega) _ (FR.or _), post_or]
    simp only [Option.bind_some, h3]
    rw [hK1 (m + 1) (by omega) r hr]
    rfl
theorem p_either (l : List Ty) (h2 : 2 ≤ l.length) (h10 : ∀ y ∈ l, y.f0 ≠ 10) (h : ∀ y ∈ l, P y) : P ⟨10, 0, [], l⟩ := by
  match l, h2 with
  | x :: y :: l, _ =>
    have e : ∀ r, shL ⟨10, 0, [], x :: y :: l⟩ ++ r = E x ++ (32 :: 124 :: 32 :: (E y ++ (oth l ++ r))) := fun r => by rw [sh_either, join_oth _ _ h10]; simp [oth]
    refine P.of_br (Or.inl rfl) ?_ ?_
    · obtain ⟨b, s, e1, hb⟩ := E_hd (h x (by simp)).hd
      have := e []
      rw [List.append_nil, e1] at this
      exact ⟨b, _, this, hb⟩
    · obtain ⟨K1, hK1⟩ := (h x (by simp)).two
      obtain ⟨K2, hK2⟩ := members_ev l y (fun z hz => h z (by simp at hz ⊢; rcases hz with h | h <;> simp [h]))
      refine ⟨K1 + K2 + 2, fun k hk r hr => ?_⟩
      obtain ⟨m, rfl⟩ : ∃ j, k = j + 2 := ⟨k - 2, by omega⟩
      have h3 : ∀ x : Bs, strip [32, 124, 32] (32 :: 124 :: 32 :: x) = some x := fun x => rfl
      rw [e, hK1 (m + 1) (by omega) _ (FR.or _), post_or, union]
      simp only [h3]
      rw [hK2 m (by omega) r hr]
      rfl
theorem good_p {t : Ty} (h : Good t) : P t := by
  induction h with
  | word k h1 h2 => exact p_word k h1 h2
  | list y _ ih => exact p_list y ih
  | recd ns l h hn _ ih => exact p_recd ns l h hn ih
  | fn ps q _ _ ih ihq => exact p_fn ps q ih ihq
  | either l h2 h10 _ ih => exact p_either l h2 h10 ih
  | ref k n h1 h2 h3 => exact p_ref k n h1 h2 h3
theorem good_inj {a b : Ty} (ha : Good a) (hb : Good b) (h : showT a = showT b) : a = b := by
  obtain ⟨K1, h1⟩ := (good_p ha).one
  obtain ⟨K2, h2⟩ := (good_p hb).one
  have tr : TR [] := fun b s e => by cases e
  have e1 := h1 (K1 + K2) (by omega) [] tr
  have e2 := h2 (K1 + K2) (by omega) [] tr
  have e : shL a = shL b := by unfold shL; rw [h]
  rw [e, e2] at e1
  injection e1 with e1
  injection e1 with e1 _
  exact e1.symm
mutual
def plainT : Ty → Bool
  | ⟨_, _, ns, l⟩ => (ns.all fun n => !n.data.toList.isEmpty && n.data.toList.all isLow) && plainTs l
def plainTs : List Ty → Bool
  | [] => true
  | t :: r => plainT t && plainTs r
end
theorem plainTs_iff : ∀ l : List Ty, plainTs l = true ↔ ∀ t ∈ l, plainT t = true
  | [] => by simp [plainTs]
  | t :: r => by rw [plainTs, Bool.and_eq_true, plainTs_iff r]; simp
theorem good_of (t : Ty) : mayT t = true → plainT t = true → Good t := by
  refine Ty.ind (p := fun t => mayT t = true → plainT t = true → Good t) ?_ t
  intro k n ns l ih hm hp
  rw [mayT_mk, Bool.and_eq_true, mayTs_iff] at hm
  rw [plainT, Bool.and_eq_true, plainTs_iff] at hp
  obtain ⟨hs, hm⟩ := hm
  obtain ⟨hn, hp⟩ := hp
  have hg : ∀ y ∈ l, Good y := fun y hy => ih y hy (hm y hy) (hp y hy)
  replace hs : (if 1 ≤ k ∧ k ≤ 6 then ns.length == 0 && l.length == 0 && n == 0
    else if k = 7 then ns.length == 0 && l.length == 1 && n == 0
    else if k = 8 then risesB ns && l.length == ns.length && n == 0
    else if k = 9 then ns.length == 0 && decide (1 ≤ l.length) && n == 0
    else if k = 10 then partsOk l && ns.length == 0 && decide (2 ≤ l.length) && n == 0
    else if 11 ≤ k ∧ k ≤ 13 then ns.length == 0 && l.length == 0 && decide (0 ≤ n)
    else false) = true := hs
  by_cases h : 1 ≤ k ∧ k ≤ 6
  · rw [if_pos h] at hs
    simp only [Bool.and_eq_true, beq_iff_eq] at hs
    obtain ⟨⟨h1, h2⟩, rfl⟩ := hs
    obtain rfl := List.eq_nil_of_length_eq_zero h1
    obtain rfl := List.eq_nil_of_length_eq_zero h2
    exact .word k h.1 h.2
  rw [if_neg h] at hs
  by_cases h : k = 7
  · rw [if_pos h] at hs
    subst h
    simp only [Bool.and_eq_true, beq_iff_eq] at hs
    obtain ⟨⟨h1, h2⟩, rfl⟩ := hs
    obtain rfl := List.eq_nil_of_length_eq_zero h1
    obtain ⟨y, rfl⟩ := List.length_eq_one_iff.1 h2
    exact .list y (hg y (by simp))
  rw [if_neg h] at hs
  by_cases h : k = 8
  · rw [if_pos h] at hs
    subst h
    simp only [Bool.and_eq_true, beq_iff_eq] at hs
    obtain ⟨⟨h1, h2⟩, rfl⟩ := hs
    refine .recd ns l h2.symm (fun x hx => ?_) hg
    have := List.all_eq_true.1 hn x hx
    simp only [Bool.and_eq_true, Bool.not_eq_true', List.all_eq_true] at this
    exact ⟨fun e => by simp [e] at this, this.2⟩
  rw [if_neg h] at hs
  by_cases h : k = 9
  · rw [if_pos h] at hs
    subst h
    simp only [Bool.and_eq_true, beq_iff_eq, decide_eq_true_eq] at hs
    obtain ⟨⟨h1, h2⟩, rfl⟩ := hs
    obtain rfl := List.eq_nil_of_length_eq_zero h1
    rcases List.eq_nil_or_concat l with rfl | ⟨ps, q, rfl⟩
    · simp at h2
    · rw [List.concat_eq_append] at hg ⊢
      exact .fn ps q (fun y hy => hg y (by simp [hy])) (hg q (by simp))
  rw [if_neg h] at hs
  by_cases h : k = 10
  · rw [if_pos h] at hs
    subst h
    simp only [Bool.and_eq_true, beq_iff_eq, decide_eq_true_eq] at hs
    obtain ⟨⟨⟨h0, h1⟩, h2⟩, rfl⟩ := hs
    obtain rfl := List.eq_nil_of_length_eq_zero h1
    exact .either l h2 (fun y hy => (((partsOk_iff l).1 h0).2 y hy).1) hg
  rw [if_neg h] at hs
  by_cases h : 11 ≤ k ∧ k ≤ 13
  · rw [if_pos h] at hs
    simp only [Bool.and_eq_true, beq_iff_eq, decide_eq_true_eq] at hs
    obtain ⟨⟨h1, h2⟩, h3⟩ := hs
    obtain rfl := List.eq_nil_of_length_eq_zero h1
    obtain rfl := List.eq_nil_of_length_eq_zero h2
    exact .ref k n h.1 h.2 h3
  · rw [if_neg h] at hs; cases hs
theorem show_apart {a b : Ty} (ha : mayT a = true) (hb : mayT b = true) (pa : plainT a = true) (pb : plainT b = true) : showT a = showT b ↔ a = b :=
  ⟨good_inj (good_of a ha pa) (good_of b hb pb), fun h => by rw [h]⟩
end Go.Proofs.YtjcajpkgamolkaaDoor.Ty
