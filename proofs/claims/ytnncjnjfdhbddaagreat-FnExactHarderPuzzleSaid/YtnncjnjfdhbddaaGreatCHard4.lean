import Derived.Test.YtnncjnjfdhbddaaGreatCHard1
import Derived.Test.YtnncjnjfdhbddaaGreatCHard2
import Derived.Test.YtnncjnjfdhbddaaGreatCHard3
import Derived.Deep.DeepMust
import Derived.Deep.RegionLaw
import Derived.Deep.RegionHeld3
import Derived.Lib.SliceRun
import Derived.Shelf.Abstract
namespace Go.Proofs.YtnncjnjfdhbddaaGreat.Z
open Go.RowKit Go.Proofs.YtnncjnjfdhbddaaGreatW.PrintWords Go.Proofs.YtnncjnjfdhbddaaGreatW.PrintLast Go.Proofs.YtnncjnjfdhbddaaGreatW.PrintMore
attribute [local go_sem] max2_int min2_int max_two min_two max_three min_three max_four min_four
set_option linter.unusedVariables false
set_option linter.unusedSimpArgs false
mutual
def spec_voBefore.l0 : Nat → List Int → List Int → Int → Option (Bool)
 | 0, _, _, _ => none
 | k + 1, x0, x1, x5 => if x5 < (x0.length : Int) then (spec_voBefore.j1 k x0 x1 x5 (decide (x5 < (x1.length : Int)))) else (spec_voBefore.j1 k x0 x1 x5 false)
def spec_voBefore.j1 : Nat → List Int → List Int → Int → Bool → Option (Bool)
 | 0, _, _, _, _ => none
 | k + 1, x0, x1, x5, x15 => if x15 = true then (if 0 ≤ x5 then (if x5 < (x0.length : Int) then (if x5 < (x1.length : Int) then (if (rd x0 x5) = (rd x1 x5) then (spec_voBefore.l0 k x0 x1 (wrap64 (x5 + 1))) else (some (decide ((rd x0 x5) < (rd x1 x5))))) else (none)) else (none)) else (none)) else (some (decide ((x0.length : Int) < (x1.length : Int))))
end
def spec_voBefore.f (k : Nat) (l0 : List Int) (l1 : List Int) : Option (Bool) := spec_voBefore.l0 k l0 l1 0
theorem spec_voBefore.mono_l : ∀ k, (∀ y0 y1 y2, LeO (spec_voBefore.l0 k y0 y1 y2) (spec_voBefore.l0 (k + 1) y0 y1 y2)) ∧ (∀ y0 y1 y2 y3, LeO (spec_voBefore.j1 k y0 y1 y2 y3) (spec_voBefore.j1 (k + 1) y0 y1 y2 y3))
 | 0 => ⟨fun _ _ _ r h => by simp [spec_voBefore.l0] at h, fun _ _ _ _ r h => by simp [spec_voBefore.j1] at h⟩
 | k + 1 => by
  obtain ⟨ih0, ih1⟩ := spec_voBefore.mono_l k
  refine ⟨?_, ?_⟩
  ·intro y0 y1 y2
   unfold spec_voBefore.l0
   repeat' first
   | (with_reducible exact ih0 _ _ _)
   | (with_reducible exact ih1 _ _ _ _)
   | (with_reducible exact LeO.refl _)
   | (with_reducible exact LeO.none _)
   | (with_reducible refine LeO.ite ?_ ?_)
   | (with_reducible refine LeO.bind ?_ (fun _ => ?_))
   | exact ih0 _ _ _
   | exact ih1 _ _ _ _
   | exact LeO.none _
   | refine LeO.ite ?_ ?_
   | refine LeO.bind ?_ (fun _ => ?_)
  ·intro y0 y1 y2 y3
   unfold spec_voBefore.j1
   repeat' first
   | (with_reducible exact ih0 _ _ _)
   | (with_reducible exact ih1 _ _ _ _)
   | (with_reducible exact LeO.refl _)
   | (with_reducible exact LeO.none _)
   | (with_reducible refine LeO.ite ?_ ?_)
   | (with_reducible refine LeO.bind ?_ (fun _ => ?_))
   | exact ih0 _ _ _
   | exact ih1 _ _ _ _
   | exact LeO.none _
   | refine LeO.ite ?_ ?_
   | refine LeO.bind ?_ (fun _ => ?_)
theorem spec_voBefore.mono : ∀ a0 a1 k, LeO (spec_voBefore.f k a0 a1) (spec_voBefore.f (k + 1) a0 a1) := by
 intro a0 a1 k
 obtain ⟨ih0, ih1⟩ := spec_voBefore.mono_l k
 unfold spec_voBefore.f
 repeat' first
   | (with_reducible exact ih0 _ _ _)
   | (with_reducible exact ih1 _ _ _ _)
   | (with_reducible exact LeO.refl _)
   | (with_reducible exact LeO.none _)
   | (with_reducible refine LeO.ite ?_ ?_)
   | (with_reducible refine LeO.bind ?_ (fun _ => ?_))
   | exact ih0 _ _ _
   | exact ih1 _ _ _ _
   | exact LeO.none _
   | refine LeO.ite ?_ ?_
   | refine LeO.bind ?_ (fun _ => ?_)
set_option maxHeartbeats 8000000 in
set_option maxRecDepth 100000 in
theorem spec_voBefore.calls (k : Nat) (A0 : Option Addr) (c0 : Nat) (l0 : List Int) (A1 : Option Addr) (c1 : Nat) (l1 : List Int) (r : Bool) (w : World) (hr0 : Kd.C (Kd.int .i64) w A0 l0.length l0) (hc0 : l0.length ≤ c0) (hr1 : Kd.C (Kd.int .i64) w A1 l1.length l1) (hc1 : l1.length ≤ c1) (h : spec_voBefore.f k l0 l1 = some r) :
  Calls Tryz.prog 103 #[.slice A0 l0.length c0, .slice A1 l1.length c1] w fun e w' => e = .returned (.bool r) ∧ Drawn0 w w' := by
 have HR0 := Aside0.mk hr0
 have HC0 := Aside0.mk hc0
 clear hr0 hc0
 have HR1 := Aside0.mk hr1
 have HC1 := Aside0.mk hc1
 clear hr1 hc1
 have H : (spec_voBefore.l0 k l0 l1 0) = some r := h
 clear h
 have H' := Aside0.mk H
 clear H
 go_enter Tryz.func103, Tryz.ntmps103
 go_wp2
 repeat (go_quiet (fail); try go_wp2)
 go_loopg [5] k (fun kq v5 w' => ∃ (x5_1 : Int), v5 = .int .i64 x5_1 ∧ Aside0 (spec_voBefore.l0 kq l0 l1 x5_1 = some r) ∧ Aside0 (kq ≤ k) ∧ Drawn0 w w')
 case atStart => exact ⟨(0), (by first | rfl | (simp; done) | (simp [*]; done)), H', ⟨Nat.le_refl _⟩, by repeat (first | exact Drawn0.refl _ | apply Drawn0.step)⟩
 case round =>
  clear H'
  try clear c1
  try clear p2
  obtain ⟨x5_1, rfl, HA, HK1, ⟨m1, rfl⟩⟩ := hrel
  cases gk with
  | zero => exact absurd HA.out (by simp [spec_voBefore.l0])
  | succ k1 =>
   have H := HA.out
   clear HA
   simp only [spec_voBefore.l0] at H
   have HC3 := Aside0.mk H
   clear H
   go_upto_region 2 with (fail)
   repeat (go_quiet (fail); go_upto_region 2 with (fail))
   go_cut [15] (fun v15 wc => ∃ (kq : Nat) (x15_2 : Bool), v15 = .bool x15_2 ∧ Aside0 (spec_voBefore.j1 kq l0 l1 x5_1 x15_2 = some r) ∧ Aside0 (kq ≤ k1) ∧ Drawn0 w wc)
   case first =>
    have H := HC3.out
    clear HC3
    by_cases c4 : x5_1 < (l0.length : Int)
    ·rw [if_pos c4] at H
     have c4b0 : decide (x5_1 < (l0.length : Int)) = true := decide_eq_true c4
     clear c4
     (first | rw [c4b0] | (simp only [i64_w, i32_w]; rw [c4b0]) | skip)
     have H' := Aside0.mk H
     clear H
     go_wp2
     repeat (go_quiet (fail); try go_wp2)
     go_meet
     case rel => exact ⟨_, (decide (x5_1 < (l1.length : Int))), (by first | rfl | (simp; done) | (simp [*]; done)), H', ⟨by have := HK1.out; first | omega | exact Nat.le_refl _⟩, by repeat (first | exact Drawn0.refl _ | apply Drawn0.step)⟩
    ·rw [if_neg c4] at H
     have c4b0 : decide (x5_1 < (l0.length : Int)) = false := decide_eq_false c4
     clear c4
     (first | rw [c4b0] | (simp only [i64_w, i32_w]; rw [c4b0]) | skip)
     have H' := Aside0.mk H
     clear H
     go_wp2
     repeat (go_quiet (fail); try go_wp2)
     go_meet
     case rel => exact ⟨_, (false), (by first | rfl | (simp; done) | (simp [*]; done)), H', ⟨by have := HK1.out; first | omega | exact Nat.le_refl _⟩, by repeat (first | exact Drawn0.refl _ | apply Drawn0.step)⟩
   case rest =>
    clear HC3
    try clear c1
    try clear p2
    try clear c4
    try clear c4b0
    try clear p2
    obtain ⟨kq, x15_2, rfl, HA, HJ2, ⟨mc2, rfl⟩⟩ := hcut
    cases kq with
    | zero => exact absurd HA.out (by simp [spec_voBefore.j1])
    | succ kj2 =>
     have H := HA.out
     clear HA
     simp only [spec_voBefore.j1] at H
     by_cases c5 : x15_2 = true
     ·subst c5
      have H1 : (if 0 ≤ x5_1 then (if x5_1 < (l0.length : Int) then (if x5_1 < (l1.length : Int) then (if (rd l0 x5_1) = (rd l1 x5_1) then (spec_voBefore.l0 kj2 l0 l1 (wrap64 (x5_1 + 1))) else (some (decide ((rd l0 x5_1) < (rd l1 x5_1))))) else (none)) else (none)) else (none)) = some r := by rw [if_pos rfl] at H; exact H
      clear H
      have H := H1
      clear H1
      by_cases c6 : 0 ≤ x5_1
      ·rw [if_pos c6] at H
       have c6b0 : decide (0 ≤ x5_1) = true := decide_eq_true c6
       clear c6
       by_cases c7 : x5_1 < (l0.length : Int)
       ·rw [if_pos c7] at H
        have c7b0 : decide (x5_1 < (l0.length : Int)) = true := decide_eq_true c7
        clear c7
        by_cases c8 : x5_1 < (l1.length : Int)
        ·rw [if_pos c8] at H
         have c8b0 : decide (x5_1 < (l1.length : Int)) = true := decide_eq_true c8
         clear c8
         by_cases c9 : (rd l0 x5_1) = (rd l1 x5_1)
         ·rw [if_pos c9] at H
          have c9b0 : ((rd l0 x5_1) == (rd l1 x5_1)) = true := beq_iff_eq.mpr c9
          have c9b1 : ((rd l0 x5_1) != (rd l1 x5_1)) = false := bne_eq_false_iff_eq.mpr c9
          clear c9
          have H' := Aside0.mk H
          clear H
          have p113 : 0 ≤ (x5_1 : Int) := of_decide_eq_true (by first | (with_reducible assumption) | assumption)
          have q113 : x5_1 < (l0.length : Int) := of_decide_eq_true (by first | (with_reducible assumption) | assumption)
          obtain ⟨ad113, e113, hx113_0⟩ := Kd.at_int HR0.out x5_1 p113 q113
          cases e113
          replace p113 := eq_true p113
          replace q113 := eq_true q113
          have p114 : 0 ≤ (x5_1 : Int) := of_decide_eq_true (by first | (with_reducible assumption) | assumption)
          have q114 : x5_1 < (l1.length : Int) := of_decide_eq_true (by first | (with_reducible assumption) | assumption)
          obtain ⟨ad114, e114, hx114_0⟩ := Kd.at_int HR1.out x5_1 p114 q114
          cases e114
          replace p114 := eq_true p114
          replace q114 := eq_true q114
          go_wp2
          repeat (go_quiet (fail); try go_wp2)
          go_roundg kj2
          case measure => have := HK1.out; have := HJ2.out; omega
          case rel => exact ⟨(wrap64 (x5_1 + 1)), (by first | rfl | (simp; done) | (simp [*]; done)), H', ⟨by have := HK1.out; have := HJ2.out; omega⟩, by repeat (first | exact Drawn0.refl _ | apply Drawn0.step)⟩
         ·rw [if_neg c9] at H
          have c9b0 : ((rd l0 x5_1) == (rd l1 x5_1)) = false := beq_eq_false_iff_ne.mpr c9
          have c9b1 : ((rd l0 x5_1) != (rd l1 x5_1)) = true := bne_iff_ne.mpr c9
          obtain rfl := Option.some.inj H
          have p113 : 0 ≤ (x5_1 : Int) := of_decide_eq_true (by first | (with_reducible assumption) | assumption)
          have q113 : x5_1 < (l0.length : Int) := of_decide_eq_true (by first | (with_reducible assumption) | assumption)
          obtain ⟨ad113, e113, hx113_0⟩ := Kd.at_int HR0.out x5_1 p113 q113
          cases e113
          replace p113 := eq_true p113
          replace q113 := eq_true q113
          have p114 : 0 ≤ (x5_1 : Int) := of_decide_eq_true (by first | (with_reducible assumption) | assumption)
          have q114 : x5_1 < (l1.length : Int) := of_decide_eq_true (by first | (with_reducible assumption) | assumption)
          obtain ⟨ad114, e114, hx114_0⟩ := Kd.at_int HR1.out x5_1 p114 q114
          cases e114
          replace p114 := eq_true p114
          replace q114 := eq_true q114
          have p115 : 0 ≤ (x5_1 : Int) := of_decide_eq_true (by first | (with_reducible assumption) | assumption)
          have q115 : x5_1 < (l0.length : Int) := of_decide_eq_true (by first | (with_reducible assumption) | assumption)
          obtain ⟨ad115, e115, hx115_0⟩ := Kd.at_int HR0.out x5_1 p115 q115
          obtain rfl : ad113 = ad115 := (by injection e115)
          replace p115 := eq_true p115
          replace q115 := eq_true q115
          have p116 : 0 ≤ (x5_1 : Int) := of_decide_eq_true (by first | (with_reducible assumption) | assumption)
          have q116 : x5_1 < (l1.length : Int) := of_decide_eq_true (by first | (with_reducible assumption) | assumption)
          obtain ⟨ad116, e116, hx116_0⟩ := Kd.at_int HR1.out x5_1 p116 q116
          obtain rfl : ad114 = ad116 := (by injection e116)
          replace p116 := eq_true p116
          replace q116 := eq_true q116
          go_wp2
          repeat (go_quiet (fail); try go_wp2)
          go_ret
          exact ⟨by first | rfl | (simp; done) | (simp [*]; done), by repeat (first | exact Drawn0.refl _ | apply Drawn0.step)⟩
        ·rw [if_neg c8] at H
         exact absurd H (by simp)
       ·rw [if_neg c7] at H
        exact absurd H (by simp)
      ·rw [if_neg c6] at H
       exact absurd H (by simp)
     ·replace c5 := Bool.eq_false_iff.mpr c5
      subst c5
      have H1 : (some (decide ((l0.length : Int) < (l1.length : Int)))) = some r := by rw [if_neg (show ¬ (false = true) by decide)] at H; exact H
      clear H
      have H := H1
      clear H1
      obtain rfl := Option.some.inj H
      go_wp2
      repeat (go_quiet (fail); try go_wp2)
      go_ret
      exact ⟨by first | rfl | (simp; done) | (simp [*]; done), by repeat (first | exact Drawn0.refl _ | apply Drawn0.step)⟩
end Go.Proofs.YtnncjnjfdhbddaaGreat.Z
namespace Go.Proofs.YtnncjnjfdhbddaaGreat.Z
open Go.RowKit Go.Proofs.YtnncjnjfdhbddaaGreatW.PrintWords Go.Proofs.YtnncjnjfdhbddaaGreatW.PrintLast Go.Proofs.YtnncjnjfdhbddaaGreatW.PrintMore
attribute [local go_sem] max2_int min2_int max_two min_two max_three min_three max_four min_four
set_option linter.unusedVariables false
set_option linter.unusedSimpArgs false
def befB (a b : List Int) : Bool := decide (cmpL a b < 0)
theorem befB_nil (b : List Int) : befB [] b = decide (0 < b.length) := by cases b <;> simp [befB, cmpL, lexC]
theorem befB_nil2 (x : Int) (a : List Int) : befB (x :: a) [] = false := by simp [befB, cmpL, lexC]
theorem befB_cons (x y : Int) (a b : List Int) : befB (x :: a) (y :: b) = if x = y then befB a b else decide (x < y) := by
 simp only [befB, cmpL, lexC, cmpI]
 by_cases h : x = y
 ·subst h
  simp only [Int.lt_irrefl, if_false, if_true]
  exact decide_eq_decide.2 Iff.rfl
 ·by_cases h2 : x < y
  ·simp [h, h2]
  ·have h3 : y < x := by omega
   have h4 : ¬ x ≤ y := by omega
   simp [h, h2, h3, h4]
theorem drop_cons (l : List Int) (j : Nat) (h : j < l.length) : l.drop j = rd l (j : Int) :: l.drop (j + 1) := by
 rw [List.drop_eq_getElem_cons h]
 simp [rd, List.getD_eq_getElem?_getD, h]
theorem voBefore_l (a b : List Int) (ha : a.length ≤ 1000) : ∀ (d j : Nat), j + d = a.length → spec_voBefore.l0 (2 * d + 2) a b (j : Int) = some (befB (a.drop j) (b.drop j))
 | 0, j, h => by
  rw [spec_voBefore.l0, if_neg (by omega), spec_voBefore.j1, if_neg (by simp), List.drop_eq_nil_of_le (show a.length ≤ j by omega), befB_nil, List.length_drop]
  congr 1
  simp only [decide_eq_decide]
  omega
 | d + 1, j, h => by
  have hj : j < a.length := by omega
  rw [show 2 * (d + 1) + 2 = (2 * d + 2) + 1 + 1 by omega, spec_voBefore.l0, if_pos (by omega), spec_voBefore.j1, drop_cons a j hj]
  by_cases hb : j < b.length
  ·rw [if_pos (by simp; omega), if_pos (by omega), if_pos (by omega), if_pos (by omega), drop_cons b j hb, befB_cons, wrap64_nat1 j (by omega), voBefore_l a b ha d (j + 1) (by omega)]
   by_cases h : rd a (j : Int) = rd b (j : Int)
   ·rw [if_pos h, if_pos h]
   ·rw [if_neg h, if_neg h]
  ·rw [if_neg (by simp; omega), List.drop_eq_nil_of_le (show b.length ≤ j by omega), befB_nil2]
   congr 1
   simp only [decide_eq_false_iff_not]
   omega
theorem voBefore_f (a b : List Int) (ha : a.length ≤ 1000) : spec_voBefore.f (2 * a.length + 2) a b = some (befB a b) := by
 have := voBefore_l a b ha a.length 0 (by omega)
 simpa [spec_voBefore.f] using this
end Go.Proofs.YtnncjnjfdhbddaaGreat.Z
namespace Go.Proofs.YtnncjnjfdhbddaaGreat.Z
open Go.RowKit Go.Proofs.YtnncjnjfdhbddaaGreatW.PrintWords Go.Proofs.YtnncjnjfdhbddaaGreatW.PrintLast Go.Proofs.YtnncjnjfdhbddaaGreatW.PrintMore
attribute [local go_sem] max2_int min2_int max_two min_two max_three min_three max_four min_four
set_option linter.unusedVariables false
set_option linter.unusedSimpArgs false
section
variable {α : Type} {R : α → List Value → Prop} {sz m c : Nat} {w : World} {A : Option Addr} {xs : List α}
theorem rows_take (h : ReadsRow R sz w A xs.length xs) (hm : m ≤ xs.length) : ReadsRow R sz w A m (xs.take m) := by
 have hl : (xs.take m).length = m := by rw [List.length_take]; omega
 refine ⟨hl, by have := h.2.1; omega, fun hp => ?_⟩
 obtain ⟨ad, e, hc⟩ := h.2.2 (by omega)
 refine ⟨ad, e, fun j p hj => hc j p ?_⟩
 rw [List.getElem?_take] at hj
 split at hj
 ·exact hj
 ·cases hj
theorem rows_drop (h : ReadsRow R sz w A xs.length xs) (hm : m ≤ xs.length) (hc : xs.length ≤ c) : ReadsRow R sz w (if c = m then A else A.map (·.add (m * sz))) (xs.length - m) (xs.drop m) := by
 have hl : (xs.drop m).length = xs.length - m := List.length_drop
 refine ⟨hl, by have := h.2.1; omega, fun hp => ?_⟩
 obtain ⟨ad, rfl, hcell⟩ := h.2.2 (by omega)
 rw [if_neg (by omega)]
 refine ⟨ad.add (m * sz), rfl, fun j p hj => ?_⟩
 rw [List.getElem?_drop] at hj
 obtain ⟨cs, h1, h2, h3⟩ := hcell (m + j) p hj
 refine ⟨cs, h1, h2, fun i u hu => ?_⟩
 rw [add_add, show m * sz + (j * sz + i) = (m + j) * sz + i by rw [Nat.add_mul]; omega]
 exact h3 i u hu
theorem R_rowsM {d : Kd α} {e base : Nat} {v : Value} (h : d.R e w base (fun _ => True) v xs) : ∃ A c, v = .slice A xs.length c ∧ xs.length ≤ c ∧ ReadsRow (d.M w base (fun k => k < w.heap.size)) d.sz w A xs.length xs := by
 obtain ⟨A, c, he, hl, hr⟩ := OwnRow.reads (Kd.R_bound h).2
 exact ⟨A, c, he, hl, hr.imp_ (Below.refl _ _) (fun _ _ hp => d.M_mono (fun k hk => hk.1.2.2.1) hp)⟩
theorem own_grow {v v1 : Value} {W : World} {N : Nat} (hat : v1.ownBlock = v.ownBlock ∨ ∃ b, v1.ownBlock = some b ∧ W.heap.size ≤ b) (hv : ∀ k, v.ownBlock = some k → N ≤ k) (hN : N ≤ W.heap.size) : ∀ k, v1.ownBlock = some k → N ≤ k := by
 intro k hk
 rcases hat with h | ⟨b, hb, hs⟩
 ·exact hv k (h ▸ hk)
 ·rw [hb] at hk; cases hk; omega
end
def insP {α : Type} (lt : α → α → Bool) (l : List α) (x : α) : List α := l.takeWhile (fun y => lt y x) ++ [x] ++ l.dropWhile (fun y => lt y x)
def srtP {α : Type} (lt : α → α → Bool) (l : List α) : List α := l.foldl (insP lt) []
theorem takeWhile_all {α : Type} (p : α → Bool) : ∀ (l : List α), (∀ y ∈ l, p y = true) → l.takeWhile p = l
 | [], _ => rfl
 | x :: t, h => by
  rw [List.takeWhile_cons, h x (by simp)]
  simp only [takeWhile_all p t (fun y hy => h y (by simp [hy])), if_true]
theorem insP_at {α : Type} (lt : α → α → Bool) (l : List α) (x : α) (z : α) (k : Nat) (hk : k ≤ l.length) (h : ∀ i, i < k → lt (l.getD i z) x = true) (he : k = l.length ∨ lt (l.getD k z) x = false) : l.take k ++ [x] ++ l.drop k = insP lt l x := by
 have h1 : (l.take k).takeWhile (fun y => lt y x) = l.take k := by
  refine takeWhile_all _ _ fun y hy => ?_
  obtain ⟨i, hi, rfl⟩ := List.mem_iff_getElem.1 hy
  rw [List.length_take] at hi
  have := h i (by omega)
  simpa [List.getD_eq_getElem?_getD, show i < l.length by omega] using this
 have h3 : (l.take k).dropWhile (fun y => lt y x) = [] := by
  have := List.takeWhile_append_dropWhile (p := fun y => lt y x) (l := l.take k)
  rw [h1] at this
  simpa using this
 have h2 : (l.drop k).takeWhile (fun y => lt y x) = [] ∧ (l.drop k).dropWhile (fun y => lt y x) = l.drop k := by
  rcases he with he | he
  ·rw [List.drop_eq_nil_of_le (by omega)]; simp
  ·rcases Nat.lt_or_ge k l.length with hl | hl
   ·rw [List.drop_eq_getElem_cons hl]
    have : lt l[k] x = false := by simpa [List.getD_eq_getElem?_getD, hl] using he
    exact ⟨by rw [List.takeWhile_cons, this]; rfl, by rw [List.dropWhile_cons, this]; rfl⟩
   ·rw [List.drop_eq_nil_of_le (by omega)]; simp
 have ht : l.takeWhile (fun y => lt y x) = l.take k := by
  conv => lhs; rw [← List.take_append_drop k l]
  rw [List.takeWhile_append, h1, h2.1]; simp
 have hd : l.dropWhile (fun y => lt y x) = l.drop k := by
  conv => lhs; rw [← List.take_append_drop k l]
  rw [List.dropWhile_append, h3, h2.2]; simp
 rw [insP, ht, hd]
theorem srtP_take {α : Type} (lt : α → α → Bool) (l : List α) (z : α) (k : Nat) (hk : k < l.length) : srtP lt (l.take (k + 1)) = insP lt (srtP lt (l.take k)) (l.getD k z) := by
 rw [List.take_succ_eq_append_getElem hk, srtP, List.foldl_append]
 simp [srtP, List.getD_eq_getElem?_getD, hk]
theorem insP_len {α : Type} (lt : α → α → Bool) (l : List α) (x : α) : (insP lt l x).length = l.length + 1 := by
 have := congrArg List.length (List.takeWhile_append_dropWhile (p := fun y => lt y x) (l := l))
 simp only [insP, List.length_append, List.length_singleton] at this ⊢
 omega
theorem srtP_len {α : Type} (lt : α → α → Bool) (l : List α) : (srtP lt l).length = l.length := by
 have key : ∀ (l acc : List α), (l.foldl (insP lt) acc).length = acc.length + l.length := by
  intro l
  induction l with
  | nil => intro acc; simp
  | cons x t ih => intro acc; rw [List.foldl_cons, ih, insP_len, List.length_cons]; omega
 simpa [srtP] using key l []
theorem insP_perm {α : Type} (lt : α → α → Bool) (l : List α) (x : α) : (insP lt l x).Perm (x :: l) := by
 have h : (x :: (l.takeWhile (fun y => lt y x) ++ l.dropWhile (fun y => lt y x))).Perm (x :: l) := by rw [List.takeWhile_append_dropWhile]
 refine List.Perm.trans ?_ h
 rw [insP, List.append_assoc]
 exact List.perm_middle
theorem srtP_perm {α : Type} (lt : α → α → Bool) (l : List α) : (srtP lt l).Perm l := by
 have key : ∀ (l acc : List α), (l.foldl (insP lt) acc).Perm (l.reverse ++ acc) := by
  intro l
  induction l with
  | nil => intro acc; simp
  | cons x t ih =>
   intro acc
   rw [List.foldl_cons]
   refine (ih _).trans ?_
   rw [List.reverse_cons, List.append_assoc]
   exact (insP_perm lt acc x).append_left _
 have := key l []
 rw [List.append_nil] at this
 exact this.trans (List.reverse_perm l)
end Go.Proofs.YtnncjnjfdhbddaaGreat.Z
namespace Go.Proofs.YtnncjnjfdhbddaaGreat.Z
open Go.RowKit Go.Proofs.YtnncjnjfdhbddaaGreatW.PrintWords Go.Proofs.YtnncjnjfdhbddaaGreatW.PrintLast Go.Proofs.YtnncjnjfdhbddaaGreatW.PrintMore
attribute [local go_sem] max2_int min2_int max_two min_two max_three min_three max_four min_four
set_option linter.unusedVariables false
set_option linter.unusedSimpArgs false
def spec_gmBefore.l0 : Nat → List (List Int) → Int → Int → Int → List (List Int) → Int → List (List Int) → Option (Bool)
 | 0, _, _, _, _, _, _, _ => none
 | k + 1, x8, x9, x10, x615000, x615001, x616000, x616001 => if x10 < x9 then (if 0 ≤ x10 then (if x10 < (x8.length : Int) then (if x10 ≥ (x616001.length : Int) then (some false) else (if x10 < (x616001.length : Int) then ((spec_voBefore.f k (rd_L1 x8 x10) (rd_L1 x616001 x10)).bind fun t618 => (if t618 = true then (some true) else ((spec_voBefore.f k (rd_L1 x616001 x10) (rd_L1 x8 x10)).bind fun t620 => (if t620 = true then (some false) else (spec_gmBefore.l0 k x8 x9 (wrap64 (x10 + 1)) x615000 x615001 x616000 x616001))))) else (none))) else (none)) else (none)) else (some (decide ((x615001.length : Int) < (x616001.length : Int))))
def spec_gmBefore.f (k : Nat) (a0_0 : Int) (l0_1 : List (List Int)) (a1_0 : Int) (l1_1 : List (List Int)) : Option (Bool) := spec_gmBefore.l0 k l0_1 (l0_1.length : Int) 0 a0_0 l0_1 a1_0 l1_1
set_option maxHeartbeats 8000000 in
set_option maxRecDepth 100000 in
theorem spec_gmBefore.calls (k : Nat) (a0_0 : Int) (A0_1 : Option Addr) (c0_1 : Nat) (l0_1 : List (List Int)) (a1_0 : Int) (A1_1 : Option Addr) (c1_1 : Nat) (l1_1 : List (List Int)) (r : Bool) (w : World) (hr0_1 : Kd.C (Kd.slice 3 (Kd.int .i64)) w A0_1 l0_1.length l0_1) (hc0_1 : l0_1.length ≤ c0_1) (hr1_1 : Kd.C (Kd.slice 3 (Kd.int .i64)) w A1_1 l1_1.length l1_1) (hc1_1 : l1_1.length ≤ c1_1) (h : spec_gmBefore.f k a0_0 l0_1 a1_0 l1_1 = some r) :
  Calls Tryz.prog 84 #[.agg #[.int .i64 a0_0, .slice A0_1 l0_1.length c0_1], .agg #[.int .i64 a1_0, .slice A1_1 l1_1.length c1_1]] w fun e w' => e = .returned (.bool r) ∧ Below w.heap.size w w' := by
 have hu28 := Tryz.underlying28
 have HR0_1 := Aside0.mk hr0_1
 have HC0_1 := Aside0.mk hc0_1
 clear hr0_1 hc0_1
 have HR1_1 := Aside0.mk hr1_1
 have HC1_1 := Aside0.mk hc1_1
 clear hr1_1 hc1_1
 have HB := Aside0.mk (Below.refl w.heap.size w)
 have H : (spec_gmBefore.l0 k l0_1 (l0_1.length : Int) 0 a0_0 l0_1 a1_0 l1_1) = some r := h
 clear h
 have H' := Aside0.mk H
 clear H
 go_enter Tryz.func84, Tryz.ntmps84
 go_wp2_with (first | ((with_reducible refine gate_dst (N := 2) rfl ?_); refine box_event ?hg (N := 2) ?hd (cs := #[.int .i64 a0_0, .slice A0_1 l0_1.length c0_1]) (t := 28) ?hr ?_; (case hd => rfl); (case hg => rfl); (case hr => first | (go_simp; done) | (go_simp; rfl)); intro gb614 hg w3 hbox hb; have n0_ := Aside0.mk (below_step (by repeat (first | (with_reducible first | exact HB.out | apply below_alloc | apply pw_below_drewN | apply below_drew1) | exact HB.out)) hb); have n1_ := Aside0.mk (hbox); have n2_ := Aside0.mk ((by rw [hg]; exact (below_size (by repeat (first | (with_reducible first | exact HB.out | apply below_alloc | apply pw_below_drewN | apply below_drew1) | exact HB.out))) : w.heap.size ≤ gb614)); have n3_ := Aside0.mk ((by rw [hg]; exact (below_size (by repeat (first | (with_reducible first | exact HB.out | apply below_alloc | apply pw_below_drewN | apply below_drew1) | exact HB.out))) : w.heap.size ≤ gb614)); clear HB; have HB := n0_; have BK614 := n1_; have GW614 := n2_; have GE614 := n3_; clear n0_ n1_ n2_ n3_; clear hb hbox hg) | ((with_reducible refine gate_dst (N := 3) rfl ?_); refine box_event ?hg (N := 3) ?hd (cs := #[.int .i64 a1_0, .slice A1_1 l1_1.length c1_1]) (t := 28) ?hr ?_; (case hd => rfl); (case hg => rfl); (case hr => first | (go_simp; done) | (go_simp; rfl)); intro gb615 hg w4 hbox hb; have n0_ := Aside0.mk (blk_below (g := gb614) (o := .cells #[.int .i64 a0_0, .slice A0_1 l0_1.length c0_1] 28 (0, 0)) (by (with_reducible repeat (first | refine blk_drewN ?_ _ | refine blk_drew ?_ | refine blk_alloc ?_ _)); exact BK614.out) hb); have n1_ := Aside0.mk (below_step (by repeat (first | (with_reducible first | exact HB.out | apply below_alloc | apply pw_below_drewN | apply below_drew1 | refine below_set ?_ GE614.out) | exact HB.out)) hb); have n2_ := Aside0.mk (hbox); have n3_ := Aside0.mk ((by rw [hg]; exact (below_size (by repeat (first | (with_reducible first | exact HB.out | apply below_alloc | apply pw_below_drewN | apply below_drew1 | refine below_set ?_ GE614.out) | exact HB.out))) : w.heap.size ≤ gb615)); have n4_ := Aside0.mk ((by rw [hg]; exact (below_size (by repeat (first | (with_reducible first | exact HB.out | apply below_alloc | apply pw_below_drewN | apply below_drew1 | refine below_set ?_ GE614.out) | exact HB.out))) : w.heap.size ≤ gb615)); have n5_ := Aside0.mk ((by rw [hg]; exact Nat.ne_of_lt (blk_lt (g := gb614) (o := .cells #[.int .i64 a0_0, .slice A0_1 l0_1.length c0_1] 28 (0, 0)) (by (with_reducible repeat (first | refine blk_drewN ?_ _ | refine blk_drew ?_ | refine blk_alloc ?_ _)); exact BK614.out)) : gb614 ≠ gb615)); have n6_ := Aside0.mk ((by rw [hg]; exact Nat.ne_of_gt (blk_lt (g := gb614) (o := .cells #[.int .i64 a0_0, .slice A0_1 l0_1.length c0_1] 28 (0, 0)) (by (with_reducible repeat (first | refine blk_drewN ?_ _ | refine blk_drew ?_ | refine blk_alloc ?_ _)); exact BK614.out)) : gb615 ≠ gb614)); clear BK614; clear HB; have BK614 := n0_; have HB := n1_; have BK615 := n2_; have GW615 := n3_; have GE615 := n4_; have NB614_615 := n5_; have NB615_614 := n6_; clear n0_ n1_ n2_ n3_ n4_ n5_ n6_; clear hb hbox hg; have hnb5 := NB614_615.out; have hnc5 := NB615_614.out; have hcz6_0 : w4.cell? ⟨gb614, 0, none⟩ = some (.int .i64 a0_0) := (blk_cell BK614.out 0).trans rfl; have hcz6_1 : w4.cell? ⟨gb614, 1, none⟩ = some (.slice A0_1 l0_1.length c0_1) := (blk_cell BK614.out 1).trans rfl; have hfz6_0 := blk_frozen BK614.out 0; have hfz6_1 := blk_frozen BK614.out 1))
 go_loopg [10] k (fun kq v10 w' => ∃ (x10_1 : Int), v10 = .int .i64 x10_1 ∧ Aside0 (spec_gmBefore.l0 kq l0_1 (l0_1.length : Int) x10_1 a0_0 l0_1 a1_0 l1_1 = some r) ∧ Aside0 (kq ≤ k) ∧ Aside0 (w'.heap[gb614]? = some (.cells #[.int .i64 a0_0, (.slice A0_1 l0_1.length c0_1)] 28 (0, 0))) ∧ Aside0 (w'.heap[gb615]? = some (.cells #[.int .i64 a1_0, (.slice A1_1 l1_1.length c1_1)] 28 (0, 0))) ∧ Aside0 (Below w.heap.size w w'))
 case atStart => exact ⟨(0), (by first | rfl | (simp; done) | (simp [*]; done)), H', ⟨Nat.le_refl _⟩, ⟨by (with_reducible repeat (first | refine blk_drewN ?_ _ | refine blk_drew ?_ | refine blk_alloc ?_ _)); exact BK614.out⟩, ⟨by (with_reducible repeat (first | refine blk_drewN ?_ _ | refine blk_drew ?_ | refine blk_alloc ?_ _)); exact BK615.out⟩, ⟨by repeat (first | (with_reducible first | exact HB.out | apply below_alloc | apply pw_below_drewN | apply below_drew1 | refine below_set ?_ GE614.out | refine below_set ?_ GE615.out) | exact HB.out)⟩⟩
 case round =>
  clear H'
  try clear c1
  try clear p2
  try clear c5
  try clear hcz6_0
  try clear hcz6_1
  try clear hfz6_0
  try clear hfz6_1
  obtain ⟨x10_1, rfl, HA, HK1, BK614, BK615, HB⟩ := hrel
  cases gk with
  | zero => exact absurd HA.out (by simp [spec_gmBefore.l0])
  | succ k1 =>
   have H := HA.out
   clear HA
   simp only [spec_gmBefore.l0] at H
   by_cases c7 : x10_1 < (l0_1.length : Int)
   ·rw [if_pos c7] at H
    have c7b0 : decide (x10_1 < (l0_1.length : Int)) = true := decide_eq_true c7
    clear c7
    by_cases c8 : 0 ≤ x10_1
    ·rw [if_pos c8] at H
     have c8b0 : decide (0 ≤ x10_1) = true := decide_eq_true c8
     clear c8
     by_cases c9 : x10_1 < (l0_1.length : Int)
     ·rw [if_pos c9] at H
      have c9b0 : decide (x10_1 < (l0_1.length : Int)) = true := decide_eq_true c9
      clear c9
      by_cases c10 : x10_1 ≥ (l1_1.length : Int)
      ·rw [if_pos c10] at H
       have c10b0 : decide ((l1_1.length : Int) ≤ x10_1) = true := decide_eq_true c10
       clear c10
       obtain rfl := Option.some.inj H
       have p616 : 0 ≤ (x10_1 : Int) := of_decide_eq_true (by first | (with_reducible assumption) | assumption)
       have q616 : x10_1 < (l0_1.length : Int) := of_decide_eq_true (by first | (with_reducible assumption) | assumption)
       obtain ⟨ad616, A616_0, c616_0, e616, hx616_0, hl616_0, hi616_0⟩ := at_L1 HR0_1.out x10_1 p616 q616
       cases e616
       replace hx616_0 := (HB.out.cell (World.block_lt_of_cell? w _ hx616_0)).trans hx616_0
       have HR616_0 := Aside0.mk hi616_0
       have HC616_0 := Aside0.mk hl616_0
       clear hi616_0 hl616_0
       replace p616 := eq_true p616
       replace q616 := eq_true q616
       have hnb11 := NB615_614.out
       have hnc11 := NB614_615.out
       have hcz12_0 : wr.cell? ⟨gb615, 0, none⟩ = some (.int .i64 a1_0) := (blk_cell BK615.out 0).trans rfl
       have hcz12_1 : wr.cell? ⟨gb615, 1, none⟩ = some (.slice A1_1 l1_1.length c1_1) := (blk_cell BK615.out 1).trans rfl
       have hfz12_0 := blk_frozen BK615.out 0
       have hfz12_1 := blk_frozen BK615.out 1
       go_wp2
       go_ret
       exact ⟨by first | rfl | (simp [errW_none, errW_some] <;> rfl) | (simp [*, errW_none, errW_some] <;> rfl), by repeat (first | (with_reducible first | exact HB.out | apply below_alloc | apply pw_below_drewN | apply below_drew1 | refine below_set ?_ GE614.out | refine below_set ?_ GE615.out) | exact HB.out)⟩
      ·rw [if_neg c10] at H
       have c10b0 : decide ((l1_1.length : Int) ≤ x10_1) = false := decide_eq_false c10
       clear c10
       by_cases c13 : x10_1 < (l1_1.length : Int)
       ·rw [if_pos c13] at H
        have c13b0 : decide (x10_1 < (l1_1.length : Int)) = true := decide_eq_true c13
        clear c13
        replace H := Option.bind_eq_some_iff.mp H
        obtain ⟨t618, A140, H⟩ := H
        replace H : (if t618 = true then (some true) else ((spec_voBefore.f k1 (rd_L1 l1_1 x10_1) (rd_L1 l0_1 x10_1)).bind fun t620 => (if t620 = true then (some false) else (spec_gmBefore.l0 k1 l0_1 (l0_1.length : Int) (wrap64 (x10_1 + 1)) a0_0 l0_1 a1_0 l1_1)))) = some r := H
        have A14 := Aside0.mk A140
        clear A140
        by_cases c15 : t618 = true
        ·subst c15
         have H1 : (some true) = some r := by rw [if_pos rfl] at H; exact H
         clear H
         have H := H1
         clear H1
         obtain rfl := Option.some.inj H
         have p616 : 0 ≤ (x10_1 : Int) := of_decide_eq_true (by first | (with_reducible assumption) | assumption)
         have q616 : x10_1 < (l0_1.length : Int) := of_decide_eq_true (by first | (with_reducible assumption) | assumption)
         obtain ⟨ad616, A616_0, c616_0, e616, hx616_0, hl616_0, hi616_0⟩ := at_L1 HR0_1.out x10_1 p616 q616
         cases e616
         replace hx616_0 := (HB.out.cell (World.block_lt_of_cell? w _ hx616_0)).trans hx616_0
         have HR616_0 := Aside0.mk hi616_0
         have HC616_0 := Aside0.mk hl616_0
         clear hi616_0 hl616_0
         replace p616 := eq_true p616
         replace q616 := eq_true q616
         have hnb16 := NB615_614.out
         have hnc16 := NB614_615.out
         have hcz17_0 : wr.cell? ⟨gb615, 0, none⟩ = some (.int .i64 a1_0) := (blk_cell BK615.out 0).trans rfl
         have hcz17_1 : wr.cell? ⟨gb615, 1, none⟩ = some (.slice A1_1 l1_1.length c1_1) := (blk_cell BK615.out 1).trans rfl
         have hfz17_0 := blk_frozen BK615.out 0
         have hfz17_1 := blk_frozen BK615.out 1
         have p617 : 0 ≤ (x10_1 : Int) := of_decide_eq_true (by first | (with_reducible assumption) | assumption)
         have q617 : x10_1 < (l1_1.length : Int) := of_decide_eq_true (by first | (with_reducible assumption) | assumption)
         obtain ⟨ad617, A617_0, c617_0, e617, hx617_0, hl617_0, hi617_0⟩ := at_L1 HR1_1.out x10_1 p617 q617
         cases e617
         replace hx617_0 := (HB.out.cell (World.block_lt_of_cell? w _ hx617_0)).trans hx617_0
         have HR617_0 := Aside0.mk hi617_0
         have HC617_0 := Aside0.mk hl617_0
         clear hi617_0 hl617_0
         replace p617 := eq_true p617
         replace q617 := eq_true q617
         go_wp2_with (first | ((with_reducible refine gate_callee (f := 103) rfl ?_); refine goesL_ (some 26) rfl rfl Tryz.func103 (by kernel_rfl) rfl #[.slice A616_0 (rd_L1 l0_1 x10_1).length c616_0, .slice A617_0 (rd_L1 l1_1 x10_1).length c617_0] rfl (by (try simp only [List.map_toArray, List.map_cons, List.map_nil]); first | done | rfl | (simp only [List.length_drop, List.length_take]; rfl)) ?_; (with_reducible refine (spec_voBefore.calls k1 _ _ (rd_L1 l0_1 x10_1) _ _ (rd_L1 l1_1 x10_1) true _ ?side1 ?side2 ?side3 ?side4 A14.out).mono ?_); (case side1 => repeat (first | exact (Kd.C_below HR616_0.out HB.out) | (with_reducible refine Kd.C_alloc ?_ _) | (with_reducible refine Kd.C_drewN ?_ _) | (with_reducible refine Kd.C_drew ?_))); (case side2 => exact HC616_0.out); (case side3 => repeat (first | exact (Kd.C_below HR617_0.out HB.out) | (with_reducible refine Kd.C_alloc ?_ _) | (with_reducible refine Kd.C_drewN ?_ _) | (with_reducible refine Kd.C_drew ?_))); (case side4 => exact HC617_0.out); rintro e w' ⟨rfl, ⟨nd, rfl⟩⟩; refine ⟨_, rfl, ?_⟩))
         go_ret
         exact ⟨by first | rfl | (simp [errW_none, errW_some] <;> rfl) | (simp [*, errW_none, errW_some] <;> rfl), by repeat (first | (with_reducible first | exact HB.out | apply below_alloc | apply pw_below_drewN | apply below_drew1 | refine below_set ?_ GE614.out | refine below_set ?_ GE615.out) | exact HB.out)⟩
        ·replace c15 := Bool.eq_false_iff.mpr c15
         subst c15
         have H1 : ((spec_voBefore.f k1 (rd_L1 l1_1 x10_1) (rd_L1 l0_1 x10_1)).bind fun t620 => (if t620 = true then (some false) else (spec_gmBefore.l0 k1 l0_1 (l0_1.length : Int) (wrap64 (x10_1 + 1)) a0_0 l0_1 a1_0 l1_1))) = some r := by rw [if_neg (show ¬ (false = true) by decide)] at H; exact H
         clear H
         have H := H1
         clear H1
         replace H := Option.bind_eq_some_iff.mp H
         obtain ⟨t620, A180, H⟩ := H
         replace H : (if t620 = true then (some false) else (spec_gmBefore.l0 k1 l0_1 (l0_1.length : Int) (wrap64 (x10_1 + 1)) a0_0 l0_1 a1_0 l1_1)) = some r := H
         have A18 := Aside0.mk A180
         clear A180
         by_cases c19 : t620 = true
         ·subst c19
          have H1 : (some false) = some r := by rw [if_pos rfl] at H; exact H
          clear H
          have H := H1
          clear H1
          obtain rfl := Option.some.inj H
          have p616 : 0 ≤ (x10_1 : Int) := of_decide_eq_true (by first | (with_reducible assumption) | assumption)
          have q616 : x10_1 < (l0_1.length : Int) := of_decide_eq_true (by first | (with_reducible assumption) | assumption)
          obtain ⟨ad616, A616_0, c616_0, e616, hx616_0, hl616_0, hi616_0⟩ := at_L1 HR0_1.out x10_1 p616 q616
          cases e616
          replace hx616_0 := (HB.out.cell (World.block_lt_of_cell? w _ hx616_0)).trans hx616_0
          have HR616_0 := Aside0.mk hi616_0
          have HC616_0 := Aside0.mk hl616_0
          clear hi616_0 hl616_0
          replace p616 := eq_true p616
          replace q616 := eq_true q616
          have hnb20 := NB615_614.out
          have hnc20 := NB614_615.out
          have hcz21_0 : wr.cell? ⟨gb615, 0, none⟩ = some (.int .i64 a1_0) := (blk_cell BK615.out 0).trans rfl
          have hcz21_1 : wr.cell? ⟨gb615, 1, none⟩ = some (.slice A1_1 l1_1.length c1_1) := (blk_cell BK615.out 1).trans rfl
          have hfz21_0 := blk_frozen BK615.out 0
          have hfz21_1 := blk_frozen BK615.out 1
          have p617 : 0 ≤ (x10_1 : Int) := of_decide_eq_true (by first | (with_reducible assumption) | assumption)
          have q617 : x10_1 < (l1_1.length : Int) := of_decide_eq_true (by first | (with_reducible assumption) | assumption)
          obtain ⟨ad617, A617_0, c617_0, e617, hx617_0, hl617_0, hi617_0⟩ := at_L1 HR1_1.out x10_1 p617 q617
          cases e617
          replace hx617_0 := (HB.out.cell (World.block_lt_of_cell? w _ hx617_0)).trans hx617_0
          have HR617_0 := Aside0.mk hi617_0
          have HC617_0 := Aside0.mk hl617_0
          clear hi617_0 hl617_0
          replace p617 := eq_true p617
          replace q617 := eq_true q617
          go_wp2_with (first | ((with_reducible refine gate_callee (f := 103) rfl ?_); refine goesL_ (some 26) rfl rfl Tryz.func103 (by kernel_rfl) rfl #[.slice A616_0 (rd_L1 l0_1 x10_1).length c616_0, .slice A617_0 (rd_L1 l1_1 x10_1).length c617_0] rfl (by (try simp only [List.map_toArray, List.map_cons, List.map_nil]); first | done | rfl | (simp only [List.length_drop, List.length_take]; rfl)) ?_; (with_reducible refine (spec_voBefore.calls k1 _ _ (rd_L1 l0_1 x10_1) _ _ (rd_L1 l1_1 x10_1) false _ ?side1 ?side2 ?side3 ?side4 A14.out).mono ?_); (case side1 => repeat (first | exact (Kd.C_below HR616_0.out HB.out) | (with_reducible refine Kd.C_alloc ?_ _) | (with_reducible refine Kd.C_drewN ?_ _) | (with_reducible refine Kd.C_drew ?_))); (case side2 => exact HC616_0.out); (case side3 => repeat (first | exact (Kd.C_below HR617_0.out HB.out) | (with_reducible refine Kd.C_alloc ?_ _) | (with_reducible refine Kd.C_drewN ?_ _) | (with_reducible refine Kd.C_drew ?_))); (case side4 => exact HC617_0.out); rintro e w' ⟨rfl, ⟨nd, rfl⟩⟩; refine ⟨_, rfl, ?_⟩; have p619 : 0 ≤ (x10_1 : Int) := of_decide_eq_true (by first | (with_reducible assumption) | assumption); have q619 : x10_1 < (l1_1.length : Int) := of_decide_eq_true (by first | (with_reducible assumption) | assumption); obtain ⟨ad619, A619_0, c619_0, e619, hx619_0, hl619_0, hi619_0⟩ := at_L1 HR1_1.out x10_1 p619 q619; obtain rfl : ad617 = ad619 := (by injection e619); replace hx619_0 := (HB.out.cell (World.block_lt_of_cell? w _ hx619_0)).trans hx619_0; have HR619_0 := Aside0.mk hi619_0; have HC619_0 := Aside0.mk hl619_0; clear hi619_0 hl619_0; replace p619 := eq_true p619; replace q619 := eq_true q619; have ea_ := Option.some.inj (hx617_0.symm.trans hx619_0); injection ea_ with ea_ en_ ec_; subst ea_; subst ec_; clear en_) | ((with_reducible refine gate_callee (f := 103) rfl ?_); refine goesL_ (some 33) rfl rfl Tryz.func103 (by kernel_rfl) rfl #[.slice A617_0 (rd_L1 l1_1 x10_1).length c617_0, .slice A616_0 (rd_L1 l0_1 x10_1).length c616_0] rfl (by (try simp only [List.map_toArray, List.map_cons, List.map_nil]); first | done | rfl | (simp only [List.length_drop, List.length_take]; rfl)) ?_; (with_reducible refine (spec_voBefore.calls k1 _ _ (rd_L1 l1_1 x10_1) _ _ (rd_L1 l0_1 x10_1) true _ ?side1 ?side2 ?side3 ?side4 A18.out).mono ?_); (case side1 => repeat (first | exact (Kd.C_below HR619_0.out (by repeat (first | (with_reducible first | exact HB.out | apply below_alloc | apply pw_below_drewN | apply below_drew1 | refine below_set ?_ GE614.out | refine below_set ?_ GE615.out) | exact HB.out))) | (with_reducible refine Kd.C_alloc ?_ _) | (with_reducible refine Kd.C_drewN ?_ _) | (with_reducible refine Kd.C_drew ?_))); (case side2 => exact HC619_0.out); (case side3 => repeat (first | exact (Kd.C_below HR616_0.out (by repeat (first | (with_reducible first | exact HB.out | apply below_alloc | apply pw_below_drewN | apply below_drew1 | refine below_set ?_ GE614.out | refine below_set ?_ GE615.out) | exact HB.out))) | (with_reducible refine Kd.C_alloc ?_ _) | (with_reducible refine Kd.C_drewN ?_ _) | (with_reducible refine Kd.C_drew ?_))); (case side4 => exact HC616_0.out); rintro e w' ⟨rfl, ⟨nd, rfl⟩⟩; refine ⟨_, rfl, ?_⟩))
          go_ret
          exact ⟨by first | rfl | (simp [errW_none, errW_some] <;> rfl) | (simp [*, errW_none, errW_some] <;> rfl), by repeat (first | (with_reducible first | exact HB.out | apply below_alloc | apply pw_below_drewN | apply below_drew1 | refine below_set ?_ GE614.out | refine below_set ?_ GE615.out) | exact HB.out)⟩
         ·replace c19 := Bool.eq_false_iff.mpr c19
          subst c19
          have H1 : (spec_gmBefore.l0 k1 l0_1 (l0_1.length : Int) (wrap64 (x10_1 + 1)) a0_0 l0_1 a1_0 l1_1) = some r := by rw [if_neg (show ¬ (false = true) by decide)] at H; exact H
          clear H
          have H := H1
          clear H1
          have H' := Aside0.mk H
          clear H
          have p616 : 0 ≤ (x10_1 : Int) := of_decide_eq_true (by first | (with_reducible assumption) | assumption)
          have q616 : x10_1 < (l0_1.length : Int) := of_decide_eq_true (by first | (with_reducible assumption) | assumption)
          obtain ⟨ad616, A616_0, c616_0, e616, hx616_0, hl616_0, hi616_0⟩ := at_L1 HR0_1.out x10_1 p616 q616
          cases e616
          replace hx616_0 := (HB.out.cell (World.block_lt_of_cell? w _ hx616_0)).trans hx616_0
          have HR616_0 := Aside0.mk hi616_0
          have HC616_0 := Aside0.mk hl616_0
          clear hi616_0 hl616_0
          replace p616 := eq_true p616
          replace q616 := eq_true q616
          have hnb22 := NB615_614.out
          have hnc22 := NB614_615.out
          have hcz23_0 : wr.cell? ⟨gb615, 0, none⟩ = some (.int .i64 a1_0) := (blk_cell BK615.out 0).trans rfl
          have hcz23_1 : wr.cell? ⟨gb615, 1, none⟩ = some (.slice A1_1 l1_1.length c1_1) := (blk_cell BK615.out 1).trans rfl
          have hfz23_0 := blk_frozen BK615.out 0
          have hfz23_1 := blk_frozen BK615.out 1
          have p617 : 0 ≤ (x10_1 : Int) := of_decide_eq_true (by first | (with_reducible assumption) | assumption)
          have q617 : x10_1 < (l1_1.length : Int) := of_decide_eq_true (by first | (with_reducible assumption) | assumption)
          obtain ⟨ad617, A617_0, c617_0, e617, hx617_0, hl617_0, hi617_0⟩ := at_L1 HR1_1.out x10_1 p617 q617
          cases e617
          replace hx617_0 := (HB.out.cell (World.block_lt_of_cell? w _ hx617_0)).trans hx617_0
          have HR617_0 := Aside0.mk hi617_0
          have HC617_0 := Aside0.mk hl617_0
          clear hi617_0 hl617_0
          replace p617 := eq_true p617
          replace q617 := eq_true q617
          go_wp2_with (first | ((with_reducible refine gate_callee (f := 103) rfl ?_); refine goesL_ (some 26) rfl rfl Tryz.func103 (by kernel_rfl) rfl #[.slice A616_0 (rd_L1 l0_1 x10_1).length c616_0, .slice A617_0 (rd_L1 l1_1 x10_1).length c617_0] rfl (by (try simp only [List.map_toArray, List.map_cons, List.map_nil]); first | done | rfl | (simp only [List.length_drop, List.length_take]; rfl)) ?_; (with_reducible refine (spec_voBefore.calls k1 _ _ (rd_L1 l0_1 x10_1) _ _ (rd_L1 l1_1 x10_1) false _ ?side1 ?side2 ?side3 ?side4 A14.out).mono ?_); (case side1 => repeat (first | exact (Kd.C_below HR616_0.out HB.out) | (with_reducible refine Kd.C_alloc ?_ _) | (with_reducible refine Kd.C_drewN ?_ _) | (with_reducible refine Kd.C_drew ?_))); (case side2 => exact HC616_0.out); (case side3 => repeat (first | exact (Kd.C_below HR617_0.out HB.out) | (with_reducible refine Kd.C_alloc ?_ _) | (with_reducible refine Kd.C_drewN ?_ _) | (with_reducible refine Kd.C_drew ?_))); (case side4 => exact HC617_0.out); rintro e w' ⟨rfl, ⟨nd, rfl⟩⟩; refine ⟨_, rfl, ?_⟩; have p619 : 0 ≤ (x10_1 : Int) := of_decide_eq_true (by first | (with_reducible assumption) | assumption); have q619 : x10_1 < (l1_1.length : Int) := of_decide_eq_true (by first | (with_reducible assumption) | assumption); obtain ⟨ad619, A619_0, c619_0, e619, hx619_0, hl619_0, hi619_0⟩ := at_L1 HR1_1.out x10_1 p619 q619; obtain rfl : ad617 = ad619 := (by injection e619); replace hx619_0 := (HB.out.cell (World.block_lt_of_cell? w _ hx619_0)).trans hx619_0; have HR619_0 := Aside0.mk hi619_0; have HC619_0 := Aside0.mk hl619_0; clear hi619_0 hl619_0; replace p619 := eq_true p619; replace q619 := eq_true q619; have ea_ := Option.some.inj (hx617_0.symm.trans hx619_0); injection ea_ with ea_ en_ ec_; subst ea_; subst ec_; clear en_) | ((with_reducible refine gate_callee (f := 103) rfl ?_); refine goesL_ (some 33) rfl rfl Tryz.func103 (by kernel_rfl) rfl #[.slice A617_0 (rd_L1 l1_1 x10_1).length c617_0, .slice A616_0 (rd_L1 l0_1 x10_1).length c616_0] rfl (by (try simp only [List.map_toArray, List.map_cons, List.map_nil]); first | done | rfl | (simp only [List.length_drop, List.length_take]; rfl)) ?_; (with_reducible refine (spec_voBefore.calls k1 _ _ (rd_L1 l1_1 x10_1) _ _ (rd_L1 l0_1 x10_1) false _ ?side1 ?side2 ?side3 ?side4 A18.out).mono ?_); (case side1 => repeat (first | exact (Kd.C_below HR619_0.out (by repeat (first | (with_reducible first | exact HB.out | apply below_alloc | apply pw_below_drewN | apply below_drew1 | refine below_set ?_ GE614.out | refine below_set ?_ GE615.out) | exact HB.out))) | (with_reducible refine Kd.C_alloc ?_ _) | (with_reducible refine Kd.C_drewN ?_ _) | (with_reducible refine Kd.C_drew ?_))); (case side2 => exact HC619_0.out); (case side3 => repeat (first | exact (Kd.C_below HR616_0.out (by repeat (first | (with_reducible first | exact HB.out | apply below_alloc | apply pw_below_drewN | apply below_drew1 | refine below_set ?_ GE614.out | refine below_set ?_ GE615.out) | exact HB.out))) | (with_reducible refine Kd.C_alloc ?_ _) | (with_reducible refine Kd.C_drewN ?_ _) | (with_reducible refine Kd.C_drew ?_))); (case side4 => exact HC616_0.out); rintro e w' ⟨rfl, ⟨nd, rfl⟩⟩; refine ⟨_, rfl, ?_⟩))
          go_roundg k1
          case measure => have := HK1.out; omega
          case rel => exact ⟨(wrap64 (x10_1 + 1)), (by first | rfl | (simp; done) | (simp [*]; done)), H', ⟨by have := HK1.out; omega⟩, ⟨by (with_reducible repeat (first | refine blk_drewN ?_ _ | refine blk_drew ?_ | refine blk_alloc ?_ _)); exact BK614.out⟩, ⟨by (with_reducible repeat (first | refine blk_drewN ?_ _ | refine blk_drew ?_ | refine blk_alloc ?_ _)); exact BK615.out⟩, ⟨by repeat (first | (with_reducible first | exact HB.out | apply below_alloc | apply pw_below_drewN | apply below_drew1 | refine below_set ?_ GE614.out | refine below_set ?_ GE615.out) | exact HB.out)⟩⟩
       ·rw [if_neg c13] at H
        exact absurd H (by simp)
     ·rw [if_neg c9] at H
      exact absurd H (by simp)
    ·rw [if_neg c8] at H
     exact absurd H (by simp)
   ·rw [if_neg c7] at H
    have c7b0 : decide (x10_1 < (l0_1.length : Int)) = false := decide_eq_false c7
    clear c7
    obtain rfl := Option.some.inj H
    have hnb24 := NB614_615.out
    have hnc24 := NB615_614.out
    have hcz25_0 : wr.cell? ⟨gb614, 0, none⟩ = some (.int .i64 a0_0) := (blk_cell BK614.out 0).trans rfl
    have hcz25_1 : wr.cell? ⟨gb614, 1, none⟩ = some (.slice A0_1 l0_1.length c0_1) := (blk_cell BK614.out 1).trans rfl
    have hfz25_0 := blk_frozen BK614.out 0
    have hfz25_1 := blk_frozen BK614.out 1
    have hcz26_0 : wr.cell? ⟨gb615, 0, none⟩ = some (.int .i64 a1_0) := (blk_cell BK615.out 0).trans rfl
    have hcz26_1 : wr.cell? ⟨gb615, 1, none⟩ = some (.slice A1_1 l1_1.length c1_1) := (blk_cell BK615.out 1).trans rfl
    have hfz26_0 := blk_frozen BK615.out 0
    have hfz26_1 := blk_frozen BK615.out 1
    go_wp2
    go_ret
    exact ⟨by first | rfl | (simp [errW_none, errW_some] <;> rfl) | (simp [*, errW_none, errW_some] <;> rfl), by repeat (first | (with_reducible first | exact HB.out | apply below_alloc | apply pw_below_drewN | apply below_drew1 | refine below_set ?_ GE614.out | refine below_set ?_ GE615.out) | exact HB.out)⟩
end Go.Proofs.YtnncjnjfdhbddaaGreat.Z
namespace Go.Proofs.YtnncjnjfdhbddaaGreat.Z
open Go.RowKit Go.Proofs.YtnncjnjfdhbddaaGreatW.PrintWords Go.Proofs.YtnncjnjfdhbddaaGreatW.PrintLast Go.Proofs.YtnncjnjfdhbddaaGreatW.PrintMore
attribute [local go_sem] max2_int min2_int max_two min_two max_three min_three max_four min_four
set_option linter.unusedVariables false
set_option linter.unusedSimpArgs false
def befG (g h : S28) : Bool := decide (cmpLL g.f1 h.f1 < 0)
def befLL (a b : List (List Int)) : Bool := decide (cmpLL a b < 0)
theorem befLL_nil (b : List (List Int)) : befLL [] b = decide (0 < b.length) := by cases b <;> simp [befLL, cmpLL, lexC]
theorem befLL_nil2 (x : List Int) (a : List (List Int)) : befLL (x :: a) [] = false := by simp [befLL, cmpLL, lexC]
theorem befLL_cons (x y : List Int) (a b : List (List Int)) : befLL (x :: a) (y :: b) = if befB x y then true else if befB y x then false else befLL a b := by
 have h1 := Cmp.L.anti x y
 have h2 := Cmp.L.anti y x
 simp only [befLL, cmpLL, lexC, befB]
 by_cases h : cmpL x y = 0
 ·have h3 : cmpL y x = 0 := by omega
  simp only [h, h3, if_true, Int.lt_irrefl, decide_false, if_false, Bool.false_eq_true]
  exact decide_eq_decide.2 Iff.rfl
 ·by_cases hlt : cmpL x y < 0
  ·simp [h, hlt]
  ·have h4 : cmpL y x < 0 := by omega
   simp [h, hlt, h4]
theorem dropLL_cons (l : List (List Int)) (j : Nat) (h : j < l.length) : l.drop j = l.getD j [] :: l.drop (j + 1) := by
 rw [List.drop_eq_getElem_cons h]
 simp [List.getD_eq_getElem?_getD, h]
theorem rdL1_nat (l : List (List Int)) (j : Nat) : rd_L1 l (j : Int) = l.getD j [] := rfl
theorem voBefore_any (x y : List Int) (hx : x.length ≤ 9) (k : Nat) (hk : 20 ≤ k) : spec_voBefore.f k x y = some (befB x y) :=
 at_rounds (fun k => spec_voBefore.mono x y k) (show 2 * x.length + 2 ≤ k by omega) (voBefore_f x y (by omega))
theorem gmBefore_l (a b : List (List Int)) (ha : a.length ≤ 1000) (hs : ∀ x ∈ a, x.length ≤ 9) (hs2 : ∀ x ∈ b, x.length ≤ 9) (x1 x2 : Int) : ∀ (d j : Nat), j + d = a.length → spec_gmBefore.l0 (d + 21) a (a.length : Int) (j : Int) x1 a x2 b = some (befLL (a.drop j) (b.drop j))
 | 0, j, h => by
  rw [spec_gmBefore.l0, if_neg (by omega), List.drop_eq_nil_of_le (show a.length ≤ j by omega), befLL_nil, List.length_drop]
  congr 1
  simp only [decide_eq_decide]
  omega
 | d + 1, j, h => by
  have hj : j < a.length := by omega
  rw [show d + 1 + 21 = (d + 21) + 1 by omega, spec_gmBefore.l0, if_pos (by omega), if_pos (by omega), if_pos (by omega), dropLL_cons a j hj, rdL1_nat, rdL1_nat]
  have h1 : (a.getD j []).length ≤ 9 := hs _ (by simp [List.getD_eq_getElem?_getD, hj])
  by_cases hb : j < b.length
  ·have h2 : (b.getD j []).length ≤ 9 := hs2 _ (by simp [List.getD_eq_getElem?_getD, hb])
   rw [if_neg (by omega), if_pos (by omega), dropLL_cons b j hb, befLL_cons, voBefore_any _ _ h1 _ (by omega), voBefore_any _ _ h2 _ (by omega), Option.bind_some, Option.bind_some, wrap64_nat1 j (by omega), gmBefore_l a b ha hs hs2 x1 x2 d (j + 1) (by omega)]
   cases befB (a.getD j []) (b.getD j []) <;> cases befB (b.getD j []) (a.getD j []) <;> simp
  ·rw [if_pos (by omega), List.drop_eq_nil_of_le (show b.length ≤ j by omega), befLL_nil2]
theorem gmBefore_f (a b : List (List Int)) (ha : a.length ≤ 1000) (hs : ∀ x ∈ a, x.length ≤ 9) (hs2 : ∀ x ∈ b, x.length ≤ 9) (n m : Int) : spec_gmBefore.f (a.length + 21) n a m b = some (befLL a b) := by
 have := gmBefore_l a b ha hs hs2 n m a.length 0 (by omega)
 simpa [spec_gmBefore.f] using this
end Go.Proofs.YtnncjnjfdhbddaaGreat.Z
namespace Go.Proofs.YtnncjnjfdhbddaaGreat.Z
open Go.RowKit Go.Proofs.YtnncjnjfdhbddaaGreatW.PrintWords Go.Proofs.YtnncjnjfdhbddaaGreatW.PrintLast Go.Proofs.YtnncjnjfdhbddaaGreatW.PrintMore
attribute [local go_sem] max2_int min2_int max_two min_two max_three min_three max_four min_four
set_option linter.unusedVariables false
set_option linter.unusedSimpArgs false
theorem row_at {W : World} {base n c : Nat} {A : Option Addr} {xs : List (List Int)} (h : Kd.R (Kd.slice 3 (Kd.int .i64)) 36 W base (fun _ => True) (.slice A n c) xs) (k : Nat) (hk : k < n) :
  ∃ ad A1 c1, A = some ad ∧ W.cell? (ad.add k) = some (.slice A1 (xs.getD k []).length c1) ∧ (xs.getD k []).length ≤ c1 ∧ Kd.C (Kd.int .i64) W A1 (xs.getD k []).length (xs.getD k []) ∧ (Kd.slice 3 (Kd.int .i64)).M W base (fun k => k < W.heap.size) (xs.getD k []) [.slice A1 (xs.getD k []).length c1] := by
 obtain ⟨hn, _⟩ := Kd.R_reads' h
 obtain ⟨A', c', he, _, hr⟩ := R_rowsM h
 injection he with e1 _ _
 subst e1
 obtain ⟨ad, cs, e, hs, hM, hc⟩ := hr.get_ ([] : List Int) (k : Int) (by omega) (by omega)
 rw [Int.toNat_natCast] at hM hc
 obtain ⟨v, rfl, hR⟩ := hM
 obtain ⟨A1, c1, rfl, hl, hC⟩ := Kd.R_reads hR
 have h1 := hc 0 _ rfl
 have h2 : ad.add (k * (Kd.slice 3 (Kd.int .i64)).sz + 0) = ad.add k := congrArg ad.add (Nat.mul_one k)
 rw [h2] at h1
 exact ⟨ad, A1, c1, e, h1, hl, hC, ⟨_, rfl, hR⟩⟩
theorem R_made (d : Kd (List Int)) (e base : Nat) (W : World) (hb : base ≤ W.heap.size) : d.R e (W.alloc (.cells #[] e)) base (fun _ => True) (.slice (some ⟨W.heap.size, 0, none⟩) 0 0) [] :=
 ⟨fun _ _ => trivial, [], ⟨by simp, .inr ⟨W.heap.size, 0, #[], rfl, hb, heap1_0 _ _, Nat.le_refl _, by simp [maxLen], by simp, by simp⟩⟩, Reps.none _ _⟩
set_option maxRecDepth 100000 in
set_option maxHeartbeats 8000000 in
theorem voSorted_any (base : Nat) (xs : List (List Int)) (hx : xs.length ≤ 1000) (hx2 : ∀ x ∈ xs, x.length ≤ 1000) (A0 : Option Addr) (c0 : Nat) (w : World) (hb0 : base ≤ w.heap.size)
  (hX : Kd.R (Kd.slice 3 (Kd.int .i64)) 36 w base (fun _ => True) (.slice A0 xs.length c0) xs) :
  Calls Tryz.prog 97 #[.slice A0 xs.length c0] w fun e w' => ∃ v, e = .returned v ∧ Kd.R (Kd.slice 3 (Kd.int .i64)) 36 w' base (fun _ => True) v (srtP befB xs) ∧ Below w.heap.size w w' := by
 have HX := Aside0.mk hX
 have HX2 := Aside0.mk hx2
 have HL := Aside0.mk (fun k => srtP_len befB (xs.take k))
 obtain ⟨N, hN⟩ : ∃ N, N = xs.length := ⟨_, rfl⟩
 rw [← hN] at HX hx
 have HN := Aside0.mk hN
 rw [← hN]
 clear hX hx2 hN
 go_enter Tryz.func97, Tryz.ntmps97
 go_wp2
 go_loopg [3, 5, 6, 7, 10] N (fun gg s3 _ _ _ s10 wr => ∃ kk : Nat, kk ≤ N ∧ N - kk ≤ gg ∧ s10 = .int .i64 kk ∧ ∃ Ao co, s3 = .slice Ao kk co ∧ Aside0 (Below w.heap.size w wr) ∧ Aside0 (∀ k, s3.ownBlock = some k → w.heap.size ≤ k) ∧ Aside0 (Kd.R (Kd.slice 3 (Kd.int .i64)) 36 wr base (fun _ => True) s3 (srtP befB (xs.take kk))))
 case atStart => exact ⟨0, Nat.zero_le _, by omega, rfl, none, 0, rfl, ⟨Below.refl _ _⟩, ⟨by simp [Value.ownBlock]⟩, ⟨Kd.R_nil _ _ _ _ _⟩⟩
 case round =>
  obtain ⟨kk, hkk, hg, rfl, Ao, co, rfl, BW, NE, HO⟩ := hrel
  by_cases hlt : kk < N
  ·have hltz : (kk : Int) < (N : Int) := by omega
   have h0z : (0 : Int) ≤ (kk : Int) := by omega
   obtain ⟨ad, A1, c1, e, hcell, hl1, hC1, hM1⟩ := row_at (Kd.R_below HX.out BW.out) kk hlt
   have hxm : xs.getD kk [] ∈ xs := by have := HN.out; simp [List.getD_eq_getElem?_getD, show kk < xs.length by omega]
   have hx1 := HX2.out _ hxm
   have hst := srtP_take befB xs [] kk (by have := HN.out; omega)
   generalize xs.getD kk [] = x at *
   have hlo : (srtP befB (xs.take kk)).length = kk := by rw [HL.out, List.length_take]; have := HN.out; omega
   have hom : ∀ y ∈ srtP befB (xs.take kk), y.length ≤ 1000 := by
    intro y hy
    exact HX2.out y (List.mem_of_mem_take ((srtP_perm befB _).mem_iff.1 hy))
   have HST := Aside0.mk hst
   have HOM := Aside0.mk hom
   have HLO := Aside0.mk hlo
   have HC1 := Aside0.mk hC1
   have HM1 := Aside0.mk hM1
   have HIN := Aside0.mk hcell
   subst e
   clear hst hom hlo hC1 hM1 hxm
   generalize srtP befB (xs.take kk) = os at *
   go_wp2
   go_loopg [6] kk (fun gg s6 wq => ∃ k : Nat, k ≤ kk ∧ kk - k ≤ gg ∧ s6 = .int .i64 k ∧ Aside0 (Below w.heap.size w wq) ∧ Aside0 (∀ i, i < k → befB (os.getD i []) x = true) ∧ Aside0 (Kd.R (Kd.slice 3 (Kd.int .i64)) 36 wq base (fun _ => True) (.slice Ao kk co) os) ∧ Aside0 (Kd.C (Kd.int .i64) wq A1 x.length x) ∧ Aside0 ((Kd.slice 3 (Kd.int .i64)).M wq base (fun k => k < wq.heap.size) x [.slice A1 x.length c1]))
   case atStart => exact ⟨0, Nat.zero_le _, by omega, rfl, BW, ⟨fun i hi => absurd hi (Nat.not_lt_zero _)⟩, HO, HC1, HM1⟩
   case round =>
    clear BW HO HC1 HM1 HIN
    obtain ⟨k, hk, hg2, rfl, BW, HA, HO, HC1, HM1⟩ := hrel
    have arms : True := trivial
    by_cases hkl : k < kk
    ·have hkz : (k : Int) < (kk : Int) := by omega
     have hkz0 : (0 : Int) ≤ (k : Int) := by omega
     have hkd : decide ((k : Int) < (kk : Int)) = true := decide_eq_true hkz
     obtain ⟨ad2, A2, c2, e2, hcell2, hl2, hC2, _⟩ := row_at HO.out k hkl
     have hy1 := HOM.out (os.getD k []) (by have := HLO.out; simp [List.getD_eq_getElem?_getD, show k < os.length by omega])
     have HVB := Aside0.mk (spec_voBefore.calls _ A2 c2 (os.getD k []) A1 c1 x (befB (os.getD k []) x) wr hC2 hl2 HC1.out hl1 (voBefore_f _ x hy1))
     generalize hyy : os.getD k [] = y at *
     have HYY := Aside0.mk hyy
     cases e2
     clear hC2 hyy
     cases hbf : befB y x with
     | true =>
      rw [hbf] at HVB
      have HBF := Aside0.mk hbf
      clear hbf
      go_wp2_with (go_at_call 103; refine HVB.out.mono ?_; rintro e w5 ⟨rfl, hd⟩; obtain ⟨m, rfl⟩ := hd)
      go_roundg (kk - (k + 1))
      case measure => omega
      case rel =>
       refine ⟨k + 1, by omega, by omega, by go_num, ⟨pw_below_drewN BW.out _⟩, ⟨fun i hi => ?_⟩, ⟨Kd.R_drewN HO.out _⟩, ⟨Kd.C_drewN HC1.out _⟩, HM1⟩
       by_cases hi2 : i = k
       ·subst hi2; rw [HYY.out]; exact HBF.out
       ·exact HA.out i (by omega)
     | false =>
      rw [hbf] at HVB
      have HBF := Aside0.mk hbf
      clear hbf
      obtain ⟨_, _, he3, hkco, hrw⟩ := R_rowsM HO.out
      have HLO' := HLO.out
      injection he3 with e4 e6 e5
      clear e6
      rw [← e4, HLO'] at hrw
      rw [← e5, HLO'] at hkco
      have hkco2 : k ≤ co := by omega
      have HRW := Aside0.mk hrw
      clear hrw e4 e5 HLO'
      go_wp2_with (first | (go_at_call 103; refine HVB.out.mono ?_; rintro e w5 ⟨rfl, hd⟩; obtain ⟨m, rfl⟩ := hd; have HBQ := Aside0.mk (show Below wr.heap.size wr (wr.drewN m) from pw_below_drewN (Below.refl _ _) _)) | ((with_reducible refine gate_builtin (b := .append) (xs := #[.tmp 28, .tmp 31]) rfl ?_); at_builtin; go_must (refine Kd.R_append_rows (Kd.slice 3 (Kd.int .i64)) (Rr := (Kd.slice 3 (Kd.int .i64)).M wr base (fun k => k < wr.heap.size)) (w0 := wr) base rfl (.tmp 28) (.tmp 31) 22 36 (.slice none 0 0) 24 rfl Tryz.underlying22 infoS rfl (by decide) (by decide) _ [] (os.take k) _ _ _ (fun _ => True) (fun j => j < wr.heap.size) rfl rfl ?aO ?aR ?aK ?aN (fun _ _ => trivial) ?aB ?aS ?aL ?_; (case aO => exact R_made _ _ _ _ (Nat.le_trans hb0 BW.out.size)); (case aR => exact (rows_take (HLO.out.symm ▸ HRW.out) (by have := HLO.out; omega)).imp_ (below_alloc HBQ.out _) (fun _ _ h => h)); (case aK => exact fun _ _ h => (Kd.slice 3 (Kd.int .i64)).M_move (fun j hj => (below_alloc HBQ.out _).block j hj) h); (case aN => exact fun j (hj : j < wr.heap.size) => ⟨trivial, fun e => Nat.lt_irrefl _ ((show j = wr.heap.size from Option.some.inj e) ▸ hj)⟩); (case aB => exact (below_alloc HBQ.out _).mono (Nat.le_trans hb0 BW.out.size)); (case aS => exact Nat.le_trans (Nat.le_trans hb0 BW.out.size) (below_alloc HBQ.out _).size); (case aL => first | (simp; done) | (simp; omega)); intro v7 w7 ho7 hb7 hg7 hat7; have hne7 := own_grow (N := wr.heap.size) hat7 (fun j e => Nat.le_of_eq (show wr.heap.size = j from Option.some.inj e)) (below_alloc HBQ.out _).size; have HB7 := Aside0.mk ((below_alloc HBQ.out _).grown hg7 (below_alloc HBQ.out _).size (fun j e => Nat.le_of_eq (show wr.heap.size = j from Option.some.inj e))); have HO7 := Aside0.mk ho7; have HNE7 := Aside0.mk hne7; clear ho7 hb7 hg7 hat7 hne7)) | ((with_reducible refine gate_builtin (b := .append) (xs := #[.tmp 32, .tmp 34]) rfl ?_); at_builtin; go_must (refine Kd.R_append (Kd.slice 3 (Kd.int .i64)) (w0 := wr) base rfl (.tmp 32) (.tmp 34) 22 36 (.slice none 0 0) 24 rfl Tryz.underlying22 infoS rfl (by decide) (by decide) v7 ([] ++ os.take k) x [.slice A1 x.length c1] (fun _ => True) (fun j => j < wr.heap.size) rfl rfl ?bP ?bN (fun _ _ => trivial) HO7.out ?bB ?bS ?bL ?_; (case bP => exact (Kd.slice 3 (Kd.int .i64)).M_move (fun j hj => HB7.out.block j hj) HM1.out); (case bN => exact fun j (hj : j < wr.heap.size) => ⟨trivial, fun e => by have := HNE7.out j e.symm; omega⟩); (case bB => exact HB7.out.mono (Nat.le_trans hb0 BW.out.size)); (case bS => exact Nat.le_trans (Nat.le_trans hb0 BW.out.size) HB7.out.size); (case bL => first | (simp; done) | (simp; omega)); intro v8 w8 ho8 hb8 hg8 hat8; have hne8 := own_grow (N := wr.heap.size) hat8 HNE7.out HB7.out.size; have HB8 := Aside0.mk (HB7.out.grown hg8 HB7.out.size HNE7.out); have HO8 := Aside0.mk ho8; have HNE8 := Aside0.mk hne8; clear ho8 hb8 hg8 hat8 hne8)) | ((with_reducible refine gate_builtin (b := .append) (xs := #[.tmp 36, .tmp 39]) rfl ?_); at_builtin; go_must (refine Kd.R_append_rows (Kd.slice 3 (Kd.int .i64)) (Rr := (Kd.slice 3 (Kd.int .i64)).M wr base (fun k => k < wr.heap.size)) (w0 := wr) base rfl (.tmp 36) (.tmp 39) 22 36 (.slice none 0 0) 24 rfl Tryz.underlying22 infoS rfl (by decide) (by decide) v8 ([] ++ os.take k ++ [x]) (os.drop k) _ _ _ (fun _ => True) (fun j => j < wr.heap.size) rfl rfl HO8.out ?cR ?cK ?cN (fun _ _ => trivial) ?cB ?cS ?cL ?_; (case cR => have hl := HLO.out; have h := rows_drop (m := k) (c := co) (hl.symm ▸ HRW.out) (by omega) (by omega); rw [if_neg (by omega), hl] at h; have h9 := h.imp_ HB8.out (fun _ _ h => h); rw [show (Kd.slice 3 (Kd.int .i64)).sz = 1 from rfl, Nat.mul_one] at h9; exact h9); (case cK => exact fun _ _ h => (Kd.slice 3 (Kd.int .i64)).M_move (fun j hj => HB8.out.block j hj) h); (case cN => exact fun j (hj : j < wr.heap.size) => ⟨trivial, fun e => by have := HNE8.out j e.symm; omega⟩); (case cB => exact HB8.out.mono (Nat.le_trans hb0 BW.out.size)); (case cS => exact Nat.le_trans (Nat.le_trans hb0 BW.out.size) HB8.out.size); (case cL => first | (simp; done) | (simp; omega)); intro v9 w9 ho9 hb9 hg9 hat9; have hne9 := own_grow (N := wr.heap.size) hat9 HNE8.out HB8.out.size; have HB9 := Aside0.mk (HB8.out.grown hg9 HB8.out.size HNE8.out); have HO9 := Aside0.mk ho9; have HNE9 := Aside0.mk hne9; clear ho9 hb9 hg9 hat9 hne9)))
      have hins := insP_at befB os x [] k (by have := HLO.out; omega) HA.out (.inr (by rw [HYY.out]; exact HBF.out))
      have ho9 := HO9.out
      rw [List.nil_append, hins, ← HST.out] at ho9
      obtain ⟨A9, c9, rfl⟩ := Kd.R_slice ho9
      have hl9 : (srtP befB (xs.take (kk + 1))).length = kk + 1 := by rw [HL.out, List.length_take]; have := HN.out; omega
      rw [hl9] at ho9 ⊢
      have HO10 := Aside0.mk ho9
      clear ho9 hins
      go_roundg (N - (kk + 1))
      case measure => omega
      case rel =>
       exact ⟨kk + 1, by omega, by omega, by go_num, A9, c9, rfl, ⟨Below.trans BW.out (HB9.out.mono BW.out.size)⟩, ⟨fun j hj => Nat.le_trans BW.out.size (HNE9.out j (by rw [hl9]; exact hj))⟩, HO10⟩
    ·obtain rfl : k = kk := by omega
     obtain ⟨_, _, he3, hkco, hrw⟩ := R_rowsM HO.out
     have HLO' := HLO.out
     injection he3 with e4 e6 e5
     clear e6
     rw [← e4, HLO'] at hrw
     rw [← e5, HLO'] at hkco
     have HRW := Aside0.mk hrw
     have hk0 : (0 : Int) ≤ (k : Int) := by omega
     have HBQ := Aside0.mk (Below.refl wr.heap.size wr)
     clear hrw e4 e5 HLO' hkl hk hg2
     cases Ao with
     | none =>
      have h00 : k = 0 ∧ co = 0 := by
       obtain ⟨inner, hown, _⟩ := HO.out.2
       rcases hown.2 with ⟨he, h0⟩ | ⟨g, cap, cur, he, _⟩
       ·injection he with _ e1 e2
        exact ⟨e1, e2⟩
       ·injection he with e1 _ _
        cases e1
      obtain ⟨rfl, rfl⟩ := h00
      go_wp2_with (first | ((with_reducible refine gate_builtin (b := .append) (xs := #[.tmp 28, .tmp 31]) rfl ?_); at_builtin; go_must (refine Kd.R_append_rows (Kd.slice 3 (Kd.int .i64)) (Rr := (Kd.slice 3 (Kd.int .i64)).M wr base (fun k => k < wr.heap.size)) (w0 := wr) base rfl (.tmp 28) (.tmp 31) 22 36 (.slice none 0 0) 24 rfl Tryz.underlying22 infoS rfl (by decide) (by decide) _ [] (os.take 0) _ _ _ (fun _ => True) (fun j => j < wr.heap.size) rfl rfl ?aO ?aR ?aK ?aN (fun _ _ => trivial) ?aB ?aS ?aL ?_; (case aO => exact R_made _ _ _ _ (Nat.le_trans hb0 BW.out.size)); (case aR => exact (rows_take (HLO.out.symm ▸ HRW.out) (Nat.zero_le _)).imp_ (below_alloc HBQ.out _) (fun _ _ h => h)); (case aK => exact fun _ _ h => (Kd.slice 3 (Kd.int .i64)).M_move (fun j hj => (below_alloc HBQ.out _).block j hj) h); (case aN => exact fun j (hj : j < wr.heap.size) => ⟨trivial, fun e => Nat.lt_irrefl _ ((show j = wr.heap.size from Option.some.inj e) ▸ hj)⟩); (case aB => exact (below_alloc HBQ.out _).mono (Nat.le_trans hb0 BW.out.size)); (case aS => exact Nat.le_trans (Nat.le_trans hb0 BW.out.size) (below_alloc HBQ.out _).size); (case aL => first | (simp; done) | (simp; omega)); intro v7 w7 ho7 hb7 hg7 hat7; have hne7 := own_grow (N := wr.heap.size) hat7 (fun j e => Nat.le_of_eq (show wr.heap.size = j from Option.some.inj e)) (below_alloc HBQ.out _).size; have HB7 := Aside0.mk ((below_alloc HBQ.out _).grown hg7 (below_alloc HBQ.out _).size (fun j e => Nat.le_of_eq (show wr.heap.size = j from Option.some.inj e))); have HO7 := Aside0.mk ho7; have HNE7 := Aside0.mk hne7; clear ho7 hb7 hg7 hat7 hne7)) | ((with_reducible refine gate_builtin (b := .append) (xs := #[.tmp 32, .tmp 34]) rfl ?_); at_builtin; go_must (refine Kd.R_append (Kd.slice 3 (Kd.int .i64)) (w0 := wr) base rfl (.tmp 32) (.tmp 34) 22 36 (.slice none 0 0) 24 rfl Tryz.underlying22 infoS rfl (by decide) (by decide) v7 ([] ++ os.take 0) x [.slice A1 x.length c1] (fun _ => True) (fun j => j < wr.heap.size) rfl rfl ?bP ?bN (fun _ _ => trivial) HO7.out ?bB ?bS ?bL ?_; (case bP => exact (Kd.slice 3 (Kd.int .i64)).M_move (fun j hj => HB7.out.block j hj) HM1.out); (case bN => exact fun j (hj : j < wr.heap.size) => ⟨trivial, fun e => by have := HNE7.out j e.symm; omega⟩); (case bB => exact HB7.out.mono (Nat.le_trans hb0 BW.out.size)); (case bS => exact Nat.le_trans (Nat.le_trans hb0 BW.out.size) HB7.out.size); (case bL => first | (simp; done) | (simp; omega)); intro v8 w8 ho8 hb8 hg8 hat8; have hne8 := own_grow (N := wr.heap.size) hat8 HNE7.out HB7.out.size; have HB8 := Aside0.mk (HB7.out.grown hg8 HB7.out.size HNE7.out); have HO8 := Aside0.mk ho8; have HNE8 := Aside0.mk hne8; clear ho8 hb8 hg8 hat8 hne8)) | ((with_reducible refine gate_builtin (b := .append) (xs := #[.tmp 36, .tmp 39]) rfl ?_); at_builtin; go_must (refine Kd.R_append_rows (Kd.slice 3 (Kd.int .i64)) (Rr := (Kd.slice 3 (Kd.int .i64)).M wr base (fun k => k < wr.heap.size)) (w0 := wr) base rfl (.tmp 36) (.tmp 39) 22 36 (.slice none 0 0) 24 rfl Tryz.underlying22 infoS rfl (by decide) (by decide) v8 ([] ++ os.take 0 ++ [x]) (os.drop 0) _ _ _ (fun _ => True) (fun j => j < wr.heap.size) rfl rfl HO8.out ?cR ?cK ?cN (fun _ _ => trivial) ?cB ?cS ?cL ?_; (case cR => exact ⟨by have h := HLO.out; rw [List.drop_zero, h], Nat.zero_le _, fun h => absurd h (Nat.lt_irrefl _)⟩); (case cK => exact fun _ _ h => (Kd.slice 3 (Kd.int .i64)).M_move (fun j hj => HB8.out.block j hj) h); (case cN => exact fun j (hj : j < wr.heap.size) => ⟨trivial, fun e => by have := HNE8.out j e.symm; omega⟩); (case cB => exact HB8.out.mono (Nat.le_trans hb0 BW.out.size)); (case cS => exact Nat.le_trans (Nat.le_trans hb0 BW.out.size) HB8.out.size); (case cL => first | (simp; done) | (simp; omega)); intro v9 w9 ho9 hb9 hg9 hat9; have hne9 := own_grow (N := wr.heap.size) hat9 HNE8.out HB8.out.size; have HB9 := Aside0.mk (HB8.out.grown hg9 HB8.out.size HNE8.out); have HO9 := Aside0.mk ho9; have HNE9 := Aside0.mk hne9; clear ho9 hb9 hg9 hat9 hne9)))
      have hins := insP_at befB os x [] 0 (by have := HLO.out; omega) HA.out (.inl (by have := HLO.out; omega))
      have ho9 := HO9.out
      rw [List.nil_append, hins, ← HST.out] at ho9
      obtain ⟨A9, c9, rfl⟩ := Kd.R_slice ho9
      have hl9 : (srtP befB (xs.take (0 + 1))).length = 0 + 1 := by rw [HL.out, List.length_take]; have := HN.out; omega
      rw [hl9] at ho9 ⊢
      have HO10 := Aside0.mk ho9
      clear ho9 hins
      go_roundg (N - (0 + 1))
      case measure => omega
      case rel =>
       exact ⟨0 + 1, by omega, by omega, by go_num, A9, c9, rfl, ⟨Below.trans BW.out (HB9.out.mono BW.out.size)⟩, ⟨fun j hj => Nat.le_trans BW.out.size (HNE9.out j (by rw [hl9]; exact hj))⟩, HO10⟩
     | some ad2 =>
      by_cases hck : co = k
      ·subst hck
       go_wp2_with (first | ((with_reducible refine gate_builtin (b := .append) (xs := #[.tmp 28, .tmp 31]) rfl ?_); at_builtin; go_must (refine Kd.R_append_rows (Kd.slice 3 (Kd.int .i64)) (Rr := (Kd.slice 3 (Kd.int .i64)).M wr base (fun k => k < wr.heap.size)) (w0 := wr) base rfl (.tmp 28) (.tmp 31) 22 36 (.slice none 0 0) 24 rfl Tryz.underlying22 infoS rfl (by decide) (by decide) _ [] (os.take co) _ _ _ (fun _ => True) (fun j => j < wr.heap.size) rfl rfl ?aO ?aR ?aK ?aN (fun _ _ => trivial) ?aB ?aS ?aL ?_; (case aO => exact R_made _ _ _ _ (Nat.le_trans hb0 BW.out.size)); (case aR => exact (rows_take (HLO.out.symm ▸ HRW.out) (by have := HLO.out; omega)).imp_ (below_alloc HBQ.out _) (fun _ _ h => h)); (case aK => exact fun _ _ h => (Kd.slice 3 (Kd.int .i64)).M_move (fun j hj => (below_alloc HBQ.out _).block j hj) h); (case aN => exact fun j (hj : j < wr.heap.size) => ⟨trivial, fun e => Nat.lt_irrefl _ ((show j = wr.heap.size from Option.some.inj e) ▸ hj)⟩); (case aB => exact (below_alloc HBQ.out _).mono (Nat.le_trans hb0 BW.out.size)); (case aS => exact Nat.le_trans (Nat.le_trans hb0 BW.out.size) (below_alloc HBQ.out _).size); (case aL => first | (simp; done) | (simp; omega)); intro v7 w7 ho7 hb7 hg7 hat7; have hne7 := own_grow (N := wr.heap.size) hat7 (fun j e => Nat.le_of_eq (show wr.heap.size = j from Option.some.inj e)) (below_alloc HBQ.out _).size; have HB7 := Aside0.mk ((below_alloc HBQ.out _).grown hg7 (below_alloc HBQ.out _).size (fun j e => Nat.le_of_eq (show wr.heap.size = j from Option.some.inj e))); have HO7 := Aside0.mk ho7; have HNE7 := Aside0.mk hne7; clear ho7 hb7 hg7 hat7 hne7)) | ((with_reducible refine gate_builtin (b := .append) (xs := #[.tmp 32, .tmp 34]) rfl ?_); at_builtin; go_must (refine Kd.R_append (Kd.slice 3 (Kd.int .i64)) (w0 := wr) base rfl (.tmp 32) (.tmp 34) 22 36 (.slice none 0 0) 24 rfl Tryz.underlying22 infoS rfl (by decide) (by decide) v7 ([] ++ os.take co) x [.slice A1 x.length c1] (fun _ => True) (fun j => j < wr.heap.size) rfl rfl ?bP ?bN (fun _ _ => trivial) HO7.out ?bB ?bS ?bL ?_; (case bP => exact (Kd.slice 3 (Kd.int .i64)).M_move (fun j hj => HB7.out.block j hj) HM1.out); (case bN => exact fun j (hj : j < wr.heap.size) => ⟨trivial, fun e => by have := HNE7.out j e.symm; omega⟩); (case bB => exact HB7.out.mono (Nat.le_trans hb0 BW.out.size)); (case bS => exact Nat.le_trans (Nat.le_trans hb0 BW.out.size) HB7.out.size); (case bL => first | (simp; done) | (simp; omega)); intro v8 w8 ho8 hb8 hg8 hat8; have hne8 := own_grow (N := wr.heap.size) hat8 HNE7.out HB7.out.size; have HB8 := Aside0.mk (HB7.out.grown hg8 HB7.out.size HNE7.out); have HO8 := Aside0.mk ho8; have HNE8 := Aside0.mk hne8; clear ho8 hb8 hg8 hat8 hne8)) | ((with_reducible refine gate_builtin (b := .append) (xs := #[.tmp 36, .tmp 39]) rfl ?_); at_builtin; go_must (refine Kd.R_append_rows (Kd.slice 3 (Kd.int .i64)) (Rr := (Kd.slice 3 (Kd.int .i64)).M wr base (fun k => k < wr.heap.size)) (w0 := wr) base rfl (.tmp 36) (.tmp 39) 22 36 (.slice none 0 0) 24 rfl Tryz.underlying22 infoS rfl (by decide) (by decide) v8 ([] ++ os.take co ++ [x]) (os.drop co) _ _ _ (fun _ => True) (fun j => j < wr.heap.size) rfl rfl HO8.out ?cR ?cK ?cN (fun _ _ => trivial) ?cB ?cS ?cL ?_; (case cR => have hl := HLO.out; have h := rows_drop (m := co) (c := co) (hl.symm ▸ HRW.out) (by omega) (by omega); rw [if_pos rfl, hl, Nat.sub_self] at h; exact h.imp_ HB8.out (fun _ _ h => h)); (case cK => exact fun _ _ h => (Kd.slice 3 (Kd.int .i64)).M_move (fun j hj => HB8.out.block j hj) h); (case cN => exact fun j (hj : j < wr.heap.size) => ⟨trivial, fun e => by have := HNE8.out j e.symm; omega⟩); (case cB => exact HB8.out.mono (Nat.le_trans hb0 BW.out.size)); (case cS => exact Nat.le_trans (Nat.le_trans hb0 BW.out.size) HB8.out.size); (case cL => first | (simp; done) | (simp; omega)); intro v9 w9 ho9 hb9 hg9 hat9; have hne9 := own_grow (N := wr.heap.size) hat9 HNE8.out HB8.out.size; have HB9 := Aside0.mk (HB8.out.grown hg9 HB8.out.size HNE8.out); have HO9 := Aside0.mk ho9; have HNE9 := Aside0.mk hne9; clear ho9 hb9 hg9 hat9 hne9)))
       have hins := insP_at befB os x [] co (by have := HLO.out; omega) HA.out (.inl (by have := HLO.out; omega))
       have ho9 := HO9.out
       rw [List.nil_append, hins, ← HST.out] at ho9
       obtain ⟨A9, c9, rfl⟩ := Kd.R_slice ho9
       have hl9 : (srtP befB (xs.take (co + 1))).length = co + 1 := by rw [HL.out, List.length_take]; have := HN.out; omega
       rw [hl9] at ho9 ⊢
       have HO10 := Aside0.mk ho9
       clear ho9 hins
       go_roundg (N - (co + 1))
       case measure => omega
       case rel =>
        exact ⟨co + 1, by omega, by omega, by go_num, A9, c9, rfl, ⟨Below.trans BW.out (HB9.out.mono BW.out.size)⟩, ⟨fun j hj => Nat.le_trans BW.out.size (HNE9.out j (by rw [hl9]; exact hj))⟩, HO10⟩
      ·skip
       go_wp2_with (first | ((with_reducible refine gate_builtin (b := .append) (xs := #[.tmp 28, .tmp 31]) rfl ?_); at_builtin; go_must (refine Kd.R_append_rows (Kd.slice 3 (Kd.int .i64)) (Rr := (Kd.slice 3 (Kd.int .i64)).M wr base (fun k => k < wr.heap.size)) (w0 := wr) base rfl (.tmp 28) (.tmp 31) 22 36 (.slice none 0 0) 24 rfl Tryz.underlying22 infoS rfl (by decide) (by decide) _ [] (os.take k) _ _ _ (fun _ => True) (fun j => j < wr.heap.size) rfl rfl ?aO ?aR ?aK ?aN (fun _ _ => trivial) ?aB ?aS ?aL ?_; (case aO => exact R_made _ _ _ _ (Nat.le_trans hb0 BW.out.size)); (case aR => exact (rows_take (HLO.out.symm ▸ HRW.out) (by have := HLO.out; omega)).imp_ (below_alloc HBQ.out _) (fun _ _ h => h)); (case aK => exact fun _ _ h => (Kd.slice 3 (Kd.int .i64)).M_move (fun j hj => (below_alloc HBQ.out _).block j hj) h); (case aN => exact fun j (hj : j < wr.heap.size) => ⟨trivial, fun e => Nat.lt_irrefl _ ((show j = wr.heap.size from Option.some.inj e) ▸ hj)⟩); (case aB => exact (below_alloc HBQ.out _).mono (Nat.le_trans hb0 BW.out.size)); (case aS => exact Nat.le_trans (Nat.le_trans hb0 BW.out.size) (below_alloc HBQ.out _).size); (case aL => first | (simp; done) | (simp; omega)); intro v7 w7 ho7 hb7 hg7 hat7; have hne7 := own_grow (N := wr.heap.size) hat7 (fun j e => Nat.le_of_eq (show wr.heap.size = j from Option.some.inj e)) (below_alloc HBQ.out _).size; have HB7 := Aside0.mk ((below_alloc HBQ.out _).grown hg7 (below_alloc HBQ.out _).size (fun j e => Nat.le_of_eq (show wr.heap.size = j from Option.some.inj e))); have HO7 := Aside0.mk ho7; have HNE7 := Aside0.mk hne7; clear ho7 hb7 hg7 hat7 hne7)) | ((with_reducible refine gate_builtin (b := .append) (xs := #[.tmp 32, .tmp 34]) rfl ?_); at_builtin; go_must (refine Kd.R_append (Kd.slice 3 (Kd.int .i64)) (w0 := wr) base rfl (.tmp 32) (.tmp 34) 22 36 (.slice none 0 0) 24 rfl Tryz.underlying22 infoS rfl (by decide) (by decide) v7 ([] ++ os.take k) x [.slice A1 x.length c1] (fun _ => True) (fun j => j < wr.heap.size) rfl rfl ?bP ?bN (fun _ _ => trivial) HO7.out ?bB ?bS ?bL ?_; (case bP => exact (Kd.slice 3 (Kd.int .i64)).M_move (fun j hj => HB7.out.block j hj) HM1.out); (case bN => exact fun j (hj : j < wr.heap.size) => ⟨trivial, fun e => by have := HNE7.out j e.symm; omega⟩); (case bB => exact HB7.out.mono (Nat.le_trans hb0 BW.out.size)); (case bS => exact Nat.le_trans (Nat.le_trans hb0 BW.out.size) HB7.out.size); (case bL => first | (simp; done) | (simp; omega)); intro v8 w8 ho8 hb8 hg8 hat8; have hne8 := own_grow (N := wr.heap.size) hat8 HNE7.out HB7.out.size; have HB8 := Aside0.mk (HB7.out.grown hg8 HB7.out.size HNE7.out); have HO8 := Aside0.mk ho8; have HNE8 := Aside0.mk hne8; clear ho8 hb8 hg8 hat8 hne8)) | ((with_reducible refine gate_builtin (b := .append) (xs := #[.tmp 36, .tmp 39]) rfl ?_); at_builtin; go_must (refine Kd.R_append_rows (Kd.slice 3 (Kd.int .i64)) (Rr := (Kd.slice 3 (Kd.int .i64)).M wr base (fun k => k < wr.heap.size)) (w0 := wr) base rfl (.tmp 36) (.tmp 39) 22 36 (.slice none 0 0) 24 rfl Tryz.underlying22 infoS rfl (by decide) (by decide) v8 ([] ++ os.take k ++ [x]) (os.drop k) _ _ _ (fun _ => True) (fun j => j < wr.heap.size) rfl rfl HO8.out ?cR ?cK ?cN (fun _ _ => trivial) ?cB ?cS ?cL ?_; (case cR => have hl := HLO.out; have h := rows_drop (m := k) (c := co) (hl.symm ▸ HRW.out) (by omega) (by omega); rw [if_neg (by omega), hl] at h; have h9 := h.imp_ HB8.out (fun _ _ h => h); rw [show (Kd.slice 3 (Kd.int .i64)).sz = 1 from rfl, Nat.mul_one] at h9; rw [Nat.sub_self] at h9; exact h9); (case cK => exact fun _ _ h => (Kd.slice 3 (Kd.int .i64)).M_move (fun j hj => HB8.out.block j hj) h); (case cN => exact fun j (hj : j < wr.heap.size) => ⟨trivial, fun e => by have := HNE8.out j e.symm; omega⟩); (case cB => exact HB8.out.mono (Nat.le_trans hb0 BW.out.size)); (case cS => exact Nat.le_trans (Nat.le_trans hb0 BW.out.size) HB8.out.size); (case cL => first | (simp; done) | (simp; omega)); intro v9 w9 ho9 hb9 hg9 hat9; have hne9 := own_grow (N := wr.heap.size) hat9 HNE8.out HB8.out.size; have HB9 := Aside0.mk (HB8.out.grown hg9 HB8.out.size HNE8.out); have HO9 := Aside0.mk ho9; have HNE9 := Aside0.mk hne9; clear ho9 hb9 hg9 hat9 hne9)))
       have hins := insP_at befB os x [] k (by have := HLO.out; omega) HA.out (.inl (by have := HLO.out; omega))
       have ho9 := HO9.out
       rw [List.nil_append, hins, ← HST.out] at ho9
       obtain ⟨A9, c9, rfl⟩ := Kd.R_slice ho9
       have hl9 : (srtP befB (xs.take (k + 1))).length = k + 1 := by rw [HL.out, List.length_take]; have := HN.out; omega
       rw [hl9] at ho9 ⊢
       have HO10 := Aside0.mk ho9
       clear ho9 hins
       go_roundg (N - (k + 1))
       case measure => omega
       case rel =>
        exact ⟨k + 1, by omega, by omega, by go_num, A9, c9, rfl, ⟨Below.trans BW.out (HB9.out.mono BW.out.size)⟩, ⟨fun j hj => Nat.le_trans BW.out.size (HNE9.out j (by rw [hl9]; exact hj))⟩, HO10⟩
  ·have hltz : ¬ (kk : Int) < (N : Int) := by omega
   have : kk = N := by omega
   subst this
   have ho := HO.out
   rw [HN.out, List.take_length] at ho
   have HO' := Aside0.mk ho
   clear ho
   go_wp2
   go_ret
   exact ⟨_, rfl, (by have := HO'.out; rw [← HN.out] at this; exact this), BW.out⟩
end Go.Proofs.YtnncjnjfdhbddaaGreat.Z
namespace Go.Proofs.YtnncjnjfdhbddaaGreat.Z
open Go.RowKit Go.Proofs.YtnncjnjfdhbddaaGreatW.PrintWords Go.Proofs.YtnncjnjfdhbddaaGreatW.PrintLast Go.Proofs.YtnncjnjfdhbddaaGreatW.PrintMore
attribute [local go_sem] max2_int min2_int max_two min_two max_three min_three max_four min_four
set_option linter.unusedVariables false
set_option linter.unusedSimpArgs false
set_option maxRecDepth 100000 in
set_option maxHeartbeats 1000000 in
theorem voList_any (m : Nat) (hm : m < 2 ^ 62) (w : World) :
  Calls Tryz.prog 96 #[.int .i64 (m : Int)] w fun e w' => ∃ v : Value, e = .returned v ∧ Kd.R (Kd.int .i64) 3 w' w.heap.size (fun _ => True) v (setI m) ∧ Below w.heap.size w w' := by
 have HM := Aside0.mk hm
 clear hm
 go_enter Tryz.func96, Tryz.ntmps96
 go_wp2
 go_loopg [3, 4] 62 (fun gg v3 s4 wr => ∃ kk : Nat, kk ≤ 62 ∧ 62 - kk ≤ gg ∧ s4 = .int .i64 kk ∧ Aside0 (Below w.heap.size w wr) ∧ Aside0 (Kd.R (Kd.int .i64) 3 wr w.heap.size (fun _ => True) v3 (setUpto m kk)))
 case atStart => exact ⟨0, by omega, by omega, rfl, ⟨Below.refl _ _⟩, ⟨Kd.R_nil _ _ _ _ _⟩⟩
 case round =>
  obtain ⟨kk, hkk, hg, rfl, BW, HO⟩ := hrel
  have h0 : (0 : Int) ≤ (kk : Int) := by omega
  have hlen := setUpto_len m kk
  have hz : kk = 62 → m >>> kk = 0 := fun e => by rw [e, Nat.shiftRight_eq_div_pow]; exact Nat.div_eq_of_lt HM.out
  have hb1 := shift_bit m kk
  have h1 := shiftI m kk
  have hend := setUpto_all (m := m) (kk := kk)
  generalize m >>> kk = q at hz hb1 h1 hend
  have HE := Aside0.mk hend
  clear hend
  by_cases hp : q = 0
  ·have hpd : decide (0 < q) = false := decide_eq_false (by omega)
   have HQ := Aside0.mk hp
   clear hp hz hb1
   go_wp2
   go_ret
   exact ⟨_, rfl, by rw [← HE.out HQ.out hkk]; exact HO.out, BW.out⟩
  ·have hlt : kk < 62 := by
    rcases Nat.lt_or_ge kk 62 with h | h
    ·exact h
    ·exact absurd (hz (by omega)) hp
   have hpd : decide (0 < q) = true := decide_eq_true (by omega)
   clear hp hz HE
   cases hbit : m.testBit kk with
   | false =>
    rw [hbit, if_neg (by simp)] at hb1
    have hb2 : (q : Int) % 2 = 0 := by omega
    have hb3 : Int.tmod (q : Int) 2 = 0 := by rw [Int.tmod_eq_emod_of_nonneg (by omega)]; exact hb2
    have HB := Aside0.mk hbit
    clear hbit
    go_wp2
    go_roundg (62 - (kk + 1))
    case measure => omega
    case rel => exact ⟨kk + 1, by omega, by omega, by go_num, BW, ⟨by rw [setUpto_no HB.out]; exact HO.out⟩⟩
   | true =>
    rw [hbit, if_pos rfl] at hb1
    have hb2 : (q : Int) % 2 = 1 := by omega
    have hb3 : Int.tmod (q : Int) 2 = 1 := by rw [Int.tmod_eq_emod_of_nonneg (by omega)]; exact hb2
    have HB := Aside0.mk hbit
    clear hbit
    go_wp2_with ((with_reducible refine gate_builtin (b := .append) (xs := #[.tmp 16, .tmp 18]) rfl ?_); at_builtin; refine Kd.R_append (Kd.int .i64) (w0 := w) w.heap.size rfl (.tmp 16) (.tmp 18) 36 3 (.int .i64 0) 8 rfl Tryz.underlying36 infoI rfl (by decide) (by omega) u3 (setUpto m kk) (kk : Int) [.int .i64 (kk : Int)] (fun _ => True) (fun _ => False) rfl rfl rfl (fun _ hk => hk.elim) (fun _ _ => trivial) HO.out BW.out BW.out.size (by omega) ?_; intro v1 w1 ho hb hg hat; have HO1 := Aside0.mk ho; have HB1 := Aside0.mk hb; clear ho hb hg hat)
    go_roundg (62 - (kk + 1))
    case measure => omega
    case rel => exact ⟨kk + 1, by omega, by omega, by go_num, HB1, ⟨by rw [setUpto_yes HB.out]; exact HO1.out⟩⟩
def spec_voList.f (a0 : Int) : Option (List Int) := if 0 ≤ a0 ∧ a0 < 2 ^ 62 then some (setI a0.toNat) else none
theorem spec_voList.calls (a0 : Int) (r : List Int) (w : World) (h : spec_voList.f a0 = some r) :
  Calls Tryz.prog 96 #[.int .i64 a0] w fun e w' => ∃ v0_ : Value, e = .returned (v0_) ∧ Kd.R (Kd.int .i64) 3 w' w.heap.size (fun _ => True) v0_ r ∧ Below w.heap.size w w' := by
 unfold spec_voList.f at h
 split at h
 ·obtain rfl := Option.some.inj h
  obtain ⟨m, rfl⟩ := Int.eq_ofNat_of_zero_le (by omega : 0 ≤ a0)
  exact voList_any m (by omega) w
 ·cases h
end Go.Proofs.YtnncjnjfdhbddaaGreat.Z
namespace Go.Proofs.YtnncjnjfdhbddaaGreat.Z
open Go.RowKit Go.Proofs.YtnncjnjfdhbddaaGreatW.PrintWords Go.Proofs.YtnncjnjfdhbddaaGreatW.PrintLast Go.Proofs.YtnncjnjfdhbddaaGreatW.PrintMore
attribute [local go_sem] max2_int min2_int max_two min_two max_three min_three max_four min_four
set_option linter.unusedVariables false
set_option linter.unusedSimpArgs false
def leastV (wins : List Bool) (m : Nat) : Bool := wins.getD m false && (setN m).all fun i => !(wins.getD (m - 2 ^ i) false)
theorem pow_facts (i kk : Nat) (h1 : i < 9) (h2 : 2 ^ i ≤ kk) : ∃ p : Nat, p = 2 ^ i ∧ wrap64 (2 ^ i) = (p : Int) ∧ wrap64 (2 ^ min i 64) = (p : Int) ∧ p ≤ kk ∧ p ≤ 512 := by
 have hw := wrap_pow (n := i) (N := 2 ^ i) (by omega) rfl
 refine ⟨2 ^ i, rfl, hw, ?_, h2, pow_le9 (by omega)⟩
 rw [show min i 64 = i from Nat.min_eq_left (by omega)]
 exact hw
set_option maxRecDepth 100000 in
set_option maxHeartbeats 8000000 in
theorem voLeast_any (wins : List Bool) (hw : wins.length ≤ 512) (A : Option Addr) (c : Nat) (w : World) (hr : Kd.C Kd.bool w A wins.length wins) :
  Calls Tryz.prog 154 #[.slice A wins.length c] w fun e w' => ∃ v, e = .returned v ∧ Kd.R (Kd.slice 3 (Kd.int .i64)) 36 w' w.heap.size (fun _ => True) v (srtP befB (partS (leastV wins) wins.length)) ∧ Below w.heap.size w w' := by
 have HR := Aside0.mk hr
 obtain ⟨N, hN⟩ : ∃ N, N = wins.length := ⟨_, rfl⟩
 have HN := Aside0.mk hN
 rw [← hN] at hw ⊢
 clear hr hN
 go_enter Tryz.func154, Tryz.ntmps154
 go_wp2
 go_loopg [3, 4, 5, 6, 8, 11] N (fun gg s3 _ _ _ _ s11 wr => ∃ kk : Nat, kk ≤ N ∧ N - kk ≤ gg ∧ s11 = .int .i64 kk ∧ Aside0 (Below w.heap.size w wr) ∧ Aside0 (Kd.R (Kd.slice 3 (Kd.int .i64)) 36 wr w.heap.size (fun _ => True) s3 (partS (leastV wins) kk)))
 case atStart => exact ⟨0, Nat.zero_le _, by omega, rfl, ⟨Below.refl _ _⟩, ⟨Kd.R_nil _ _ _ _ _⟩⟩
 case round =>
  obtain ⟨kk, hkk, hg, rfl, BW, HO⟩ := hrel
  by_cases hlt : kk < N
  ·have hltz : (kk : Int) < (N : Int) := by omega
   have h0z : (0 : Int) ≤ (kk : Int) := by omega
   obtain ⟨ad, e, hcell⟩ := Kd.at_bool (Kd.C_below HR.out BW.out) (kk : Int) h0z (by have := HN.out; omega)
   subst e
   have hrd : rdOf false wins (kk : Int) = wins.getD kk false := by simp [rdOf]
   rw [hrd, Int.toNat_natCast] at hcell
   cases hb : wins.getD kk false with
   | false =>
    rw [hb] at hcell
    have HB := Aside0.mk hb
    clear hb hrd
    go_wp2
    go_roundg (N - (kk + 1))
    case measure => omega
    case rel =>
     have e1 : leastV wins kk = false := by rw [leastV, HB.out]; rfl
     exact ⟨kk + 1, by omega, by omega, by go_num, BW, ⟨by rw [partS_no e1]; exact HO.out⟩⟩
   | true =>
    rw [hb] at hcell
    have HB := Aside0.mk hb
    clear hb hrd
    have hvl := fun w => spec_voList.calls (kk : Int) (setI kk) w (by rw [spec_voList.f, if_pos ⟨by omega, by omega⟩, Int.toNat_natCast])
    have HVL := Aside0.mk hvl
    clear hvl
    go_wp2_with (go_at_call 96; refine (HVL.out _).mono ?_; rintro e w2 ⟨v2, rfl, ho, hb2⟩; obtain ⟨A2, c2, rfl, hl2, hC2⟩ := Kd.R_reads ho; have HC2 := Aside0.mk hC2; have HB2 := Aside0.mk hb2; clear ho hb2 hC2 hl2)
    have hml : (setI kk).length = (setN kk).length := by simp [setI]
    have hmn : ∀ j, j < (setN kk).length → rd (setI kk) (j : Int) = (((setN kk).getD j 0 : Nat) : Int) := fun j hj => by simp [rd, setI, List.getD_eq_getElem?_getD, hj]
    have hmb : ∀ j, j < (setN kk).length → (setN kk).getD j 0 < 9 ∧ 2 ^ (setN kk).getD j 0 ≤ kk := fun j hj => by
     have h1 : (setN kk).getD j 0 ∈ setN kk := by simp [List.getD_eq_getElem?_getD, hj]
     have h2 := (List.mem_filter.1 h1).2
     have h3 := Nat.ge_two_pow_of_testBit h2
     refine ⟨?_, h3⟩
     rcases Nat.lt_or_ge ((setN kk).getD j 0) 9 with h | h
     ·exact h
     ·have := Nat.pow_le_pow_right (n := 2) (by decide) h
      omega
    obtain ⟨M, hM⟩ : ∃ M, M = (setI kk).length := ⟨_, rfl⟩
    rw [← hM] at HC2 hml ⊢
    have hM62 : M ≤ 62 := by rw [hml, setN]; exact Nat.le_trans (List.length_filter_le _ _) (by simp)
    have HMN := Aside0.mk hmn
    have HMB := Aside0.mk hmb
    have HML := Aside0.mk hml
    have HM := Aside0.mk hM
    clear hmn hmb hml hM
    go_loopg [6, 8, 21] M (fun gg s6 _ s21 wq => ∃ j : Nat, j ≤ M ∧ M - j ≤ gg ∧ s21 = .int .i64 j ∧ s6 = .bool (((setN kk).take j).all fun i => !(wins.getD (kk - 2 ^ i) false)) ∧ Aside0 (Below w.heap.size w wq) ∧ Aside0 (Kd.R (Kd.slice 3 (Kd.int .i64)) 36 wq w.heap.size (fun _ => True) u3 (partS (leastV wins) kk)) ∧ Aside0 (Kd.C (Kd.int .i64) wq A2 M (setI kk)))
    case atStart => exact ⟨0, Nat.zero_le _, by omega, rfl, by simp, ⟨Below.trans BW.out (HB2.out.mono BW.out.size)⟩, ⟨Kd.R_below HO.out HB2.out⟩, HC2⟩
    case round =>
     clear BW HO HC2
     obtain ⟨j, hj, hg2, rfl, rfl, BW, HO, HC2⟩ := hrel
     by_cases hjl : j < M
     ·have hjz : (j : Int) < (M : Int) := by omega
      have hjz0 : (0 : Int) ≤ (j : Int) := by omega
      obtain ⟨ad2, e, hcell2⟩ := Kd.at_int HC2.out (j : Int) hjz0 (by omega)
      subst e
      have hjm : j < (setN kk).length := by have := HML.out; omega
      rw [HMN.out j hjm, Int.toNat_natCast] at hcell2
      have hib := HMB.out j hjm
      have htk : (setN kk).take (j + 1) = (setN kk).take j ++ [(setN kk).getD j 0] := by rw [List.take_succ_eq_append_getElem hjm]; simp [List.getD_eq_getElem?_getD, hjm]
      generalize (setN kk).getD j 0 = i at *
      have HTK := Aside0.mk htk
      clear htk hjm
      obtain ⟨p, hp, hw1, hw2, hpk, hp9⟩ := pow_facts i kk hib.1 hib.2
      have hi0 : (0 : Int) ≤ (i : Int) := Int.natCast_nonneg _
      have HW := Aside0.mk (And.intro hw1 hw2)
      clear hw1 hw2
      obtain ⟨x, hx⟩ : ∃ x, x = kk - p := ⟨_, rfl⟩
      have hsub : (kk : Int) - (p : Int) = (x : Int) := by omega
      have hxN : x < N := by omega
      obtain ⟨ad3, e3, hcell3⟩ := Kd.at_bool (Kd.C_below HR.out BW.out) (x : Int) (by omega) (by have := HN.out; omega)
      cases e3
      have hrd : rdOf false wins (x : Int) = wins.getD (kk - 2 ^ i) false := by simp [rdOf, hx, hp]
      rw [hrd, Int.toNat_natCast] at hcell3
      generalize hbb : wins.getD (kk - 2 ^ i) false = b2 at *
      have HBB := Aside0.mk hbb
      have hx0 : (0 : Int) ≤ (x : Int) := by omega
      have hxz : (x : Int) < (N : Int) := by omega
      clear hrd hbb hp hx hib
      generalize hacc : ((setN kk).take j).all (fun i => !(wins.getD (kk - 2 ^ i) false)) = acc at *
      have HACC := Aside0.mk hacc
      clear hacc
      have hw1 := HW.out.1
      have hw2 := HW.out.2
      cases acc with
      | false =>
       go_wp2
       clear hw1 hw2 hsub
       go_roundg (M - (j + 1))
       case measure => omega
       case rel =>
        refine ⟨j + 1, by omega, by omega, by go_num, ?_, BW, HO, HC2⟩
        rw [HTK.out, List.all_append, HACC.out]; rfl
      | true =>
       go_wp2
       clear hw1 hw2 hsub
       go_roundg (M - (j + 1))
       case measure => omega
       case rel =>
        refine ⟨j + 1, by omega, by omega, by go_num, ?_, BW, HO, HC2⟩
        rw [HTK.out, List.all_append, HACC.out]
        simp only [List.all_cons, List.all_nil, HBB.out, Bool.true_and, Bool.and_true]
     ·have hjz : ¬ (j : Int) < (M : Int) := by omega
      obtain rfl : j = M := by omega
      have htk : (setN kk).take j = setN kk := List.take_of_length_le (by rw [HML.out]; exact Nat.le_refl _)
      rw [htk]
      have hpl := partS_len (leastV wins) kk
      cases hq : (setN kk).all (fun i => !(wins.getD (kk - 2 ^ i) false)) with
      | false =>
       have e1 : leastV wins kk = false := by rw [leastV, HB.out, hq]; rfl
       have E1 := Aside0.mk e1
       clear hq htk e1
       go_wp2
       go_roundg (N - (kk + 1))
       case measure => omega
       case rel =>
        exact ⟨kk + 1, by omega, by omega, by go_num, BW, ⟨by rw [partS_no E1.out]; exact HO.out⟩⟩
      | true =>
       have e1 : leastV wins kk = true := by rw [leastV, HB.out, hq]; rfl
       have E1 := Aside0.mk e1
       clear hq htk e1
       go_wp2_with (first | (go_at_call 96; refine (HVL.out _).mono ?_; rintro e w2 ⟨v2, rfl, ho2, hb2⟩; obtain ⟨A2, c2, rfl⟩ := Kd.R_slice ho2; have HO2 := Aside0.mk ho2; have HB2 := Aside0.mk hb2; clear ho2 hb2) | ((with_reducible refine gate_builtin (b := .append) (xs := #[.tmp 38, .tmp 41]) rfl ?_); at_builtin; refine Kd.R_append (Kd.slice 3 (Kd.int .i64)) (w0 := w) w.heap.size rfl (.tmp 38) (.tmp 41) 22 36 (.slice none 0 0) 24 rfl Tryz.underlying22 infoS rfl (by decide) (by omega) u3 (partS (leastV wins) kk) (setI kk) [.slice A2 (setI kk).length c2] (fun _ => True) (fun k_ => some k_ = (.slice A2 (setI kk).length c2 : Value).ownBlock) rfl rfl ?aP ?aQ (fun _ _ => trivial) ?aO ?aB ?aS (by omega) ?_; (case aP => exact Kd.M_row (Kd.R_tight rfl (Kd.R_lower HO2.out BW.out.size))); (case aQ => exact fun k hk => ⟨trivial, fun e => by have h1 := Kd.R_base HO2.out k hk.symm; have h2 := Kd.R_lt HO.out k e.symm; omega⟩); (case aO => exact Kd.R_below HO.out HB2.out); (case aB => exact Below.trans BW.out (HB2.out.mono BW.out.size)); (case aS => exact Nat.le_trans BW.out.size HB2.out.size); intro v3 w3 ho hb hg hat; have HO3 := Aside0.mk ho; have HB3 := Aside0.mk hb; clear ho hb hg hat))
       go_roundg (N - (kk + 1))
       case measure => omega
       case rel => exact ⟨kk + 1, by omega, by omega, by go_num, HB3, ⟨by rw [partS_yes E1.out]; exact HO3.out⟩⟩
  ·have hltz : ¬ (kk : Int) < (N : Int) := by omega
   obtain rfl : kk = N := by omega
   have hpl := partS_len (leastV wins) kk
   have ho := HO.out
   obtain ⟨A3, c3, hs3⟩ := Kd.R_slice ho
   subst hs3
   have hvs := voSorted_any w.heap.size (partS (leastV wins) kk) (by omega) (fun x hx => by
    obtain ⟨m, _, rfl⟩ := List.mem_map.1 hx
    rw [setI, List.length_map, setN]
    exact Nat.le_trans (List.length_filter_le _ _) (by simp)) A3 c3 _ BW.out.size ho
   have HVS := Aside0.mk hvs
   clear hvs ho
   go_wp2_with (go_at_call 97; refine HVS.out.mono ?_; rintro e w5 ⟨v5, rfl, ho5, hb5⟩; have HO5 := Aside0.mk ho5; have HB5 := Aside0.mk hb5; clear ho5 hb5)
   go_ret
   exact ⟨_, rfl, HO5.out, Below.trans BW.out (HB5.out.mono BW.out.size)⟩
def spec_voLeast.f (l0 : List Bool) : Option (List (List Int)) := if l0.length ≤ 512 then some (srtP befB (partS (leastV l0) l0.length)) else none
theorem spec_voLeast.calls (A0 : Option Addr) (c0 : Nat) (l0 : List Bool) (r : List (List Int)) (w : World) (hr0 : Kd.C Kd.bool w A0 l0.length l0) (hc0 : l0.length ≤ c0) (h : spec_voLeast.f l0 = some r) :
  Calls Tryz.prog 154 #[.slice A0 l0.length c0] w fun e w' => ∃ v0_ : Value, e = .returned (v0_) ∧ Kd.R (Kd.slice 3 (Kd.int .i64)) 36 w' w.heap.size (fun _ => True) v0_ r ∧ Below w.heap.size w w' := by
 unfold spec_voLeast.f at h
 split at h
 ·rename_i hl
  obtain rfl := Option.some.inj h
  exact voLeast_any l0 hl A0 c0 w hr0
 ·cases h
end Go.Proofs.YtnncjnjfdhbddaaGreat.Z
namespace Go.Proofs.YtnncjnjfdhbddaaGreat.Z
open Go.RowKit Go.Proofs.YtnncjnjfdhbddaaGreatW.PrintWords Go.Proofs.YtnncjnjfdhbddaaGreatW.PrintLast Go.Proofs.YtnncjnjfdhbddaaGreatW.PrintMore
attribute [local go_sem] max2_int min2_int max_two min_two max_three min_three max_four min_four
set_option linter.unusedVariables false
set_option linter.unusedSimpArgs false
def leastL (wins : List Bool) : List (List Int) := srtP befB (partS (leastV wins) wins.length)
set_option maxHeartbeats 1000000 in
theorem gmOf_any (n : Int) (wins : List Bool) (hw : wins.length ≤ 512) (A : Option Addr) (c : Nat) (w : World) (hr : Kd.C Kd.bool w A wins.length wins) (hc : wins.length ≤ c) :
  Calls Tryz.prog 128 #[.int .i64 n, .slice A wins.length c] w fun e w' => ∃ v, e = .returned (.agg #[.int .i64 n, v]) ∧ Kd.R (Kd.slice 3 (Kd.int .i64)) 36 w' w.heap.size (fun _ => True) v (leastL wins) ∧ Below w.heap.size w w' := by
 have hu28 := Tryz.underlying28
 have hvl := fun W' (hB : Below w.heap.size w W') => spec_voLeast.calls A c wins (leastL wins) W' (Kd.C_below hr hB) hc (by rw [spec_voLeast.f, if_pos hw]; rfl)
 have HVL := Aside0.mk hvl
 clear hvl hr hc hw
 generalize leastL wins = ls at *
 generalize wins.length = L at *
 go_enter Tryz.func128, Tryz.ntmps128
 go_wp2_with (go_at_call 154; refine (HVL.out _ ((Below.refl _ _).alloc (Nat.le_refl _) _)).mono ?_; rintro e w2 ⟨v2, rfl, ho, hb⟩; have HO := Aside0.mk ho; have hy := blk_below (heap1_0 w _) hb; have HY := Aside0.mk hy; have hz : w.heap.size < w2.heap.size := blk_lt hy; have hy0 : w2.cell? ⟨w.heap.size, 0, none⟩ = some (.int .i64 0) := (blk_cell hy 0).trans rfl; have hy1 : w2.cell? ⟨w.heap.size, 1, none⟩ = some (.slice none 0 0) := (blk_cell hy 1).trans rfl; have hf0 := blk_frozen hy 0; have hf1 := blk_frozen hy 1; have HB := Aside0.mk (show Below w.heap.size w w2 from Below.trans ((Below.refl _ _).alloc (Nat.le_refl _) _) (hb.mono (by simp))); obtain ⟨A2, c2, e2⟩ := Kd.R_slice ho; subst e2; clear ho hb hy)
 refine bodyPost_ret (results_cell_row rfl _ _ w.heap.size 28 #[.int .i64 n, .slice A2 ls.length c2] (0, 0) _ rfl (blk_set (blk_set HY.out 0 _) 1 _) Tryz.underlying28 rfl (by kernel_rfl)) rfl ?_
 exact ⟨_, rfl, Kd.R_lower (Kd.R_set (Kd.R_set HO.out HY.out (by decide) 0 _) (blk_set HY.out 0 _) (by decide) 1 _) (by simp), (HB.out.setCell (Nat.le_refl _) _).setCell (Nat.le_refl _) _⟩
end Go.Proofs.YtnncjnjfdhbddaaGreat.Z
namespace Go.Proofs.YtnncjnjfdhbddaaGreat.Z
open Go.RowKit Go.Proofs.YtnncjnjfdhbddaaGreatW.PrintWords Go.Proofs.YtnncjnjfdhbddaaGreatW.PrintLast Go.Proofs.YtnncjnjfdhbddaaGreatW.PrintMore
attribute [local go_sem] max2_int min2_int max_two min_two max_three min_three max_four min_four
set_option linter.unusedVariables false
set_option linter.unusedSimpArgs false
theorem game_at {W : World} {base n c : Nat} {A : Option Addr} {xs : List S28} (h : Kd.R k28 28 W base (fun _ => True) (.slice A n c) xs) (k : Nat) (hk : k < n) :
  ∃ ad A1 c1, A = some ad ∧ W.cell? (ad.add (k * 2)) = some (.int .i64 (xs.getD k z28).f0) ∧ W.cell? ⟨(ad.add (k * 2)).block, (ad.add (k * 2)).off + 1, none⟩ = some (.slice A1 (xs.getD k z28).f1.length c1) ∧ (xs.getD k z28).f1.length ≤ c1 ∧ Kd.C (Kd.slice 3 (Kd.int .i64)) W A1 (xs.getD k z28).f1.length (xs.getD k z28).f1 ∧ k28.M W base (fun k => k < W.heap.size) (xs.getD k z28) [.int .i64 (xs.getD k z28).f0, .slice A1 (xs.getD k z28).f1.length c1] := by
 obtain ⟨hn, _⟩ := Kd.R_reads' h
 obtain ⟨A', c', he, _, hr⟩ := R_rowsM h
 injection he with e1 _ _
 subst e1
 obtain ⟨ad, cs, e, hs, hM, hc⟩ := hr.get_ z28 (k : Int) (by omega) (by omega)
 rw [Int.toNat_natCast] at hM hc
 obtain ⟨v, rfl, hR⟩ := k28_openM hM
 obtain ⟨A1, c1, rfl, hl, hC⟩ := Kd.R_reads hR
 have h1 := hc 0 _ rfl
 have h2 := hc 1 _ rfl
 have e1 : k28.sz = 2 := rfl
 rw [e1] at h1 h2
 rw [Nat.add_zero] at h1
 rw [add_field _ _ 1 (by omega)] at h2
 exact ⟨ad, A1, c1, e, h1, h2, hl, hC, k28_mkM _ _ _ _ hR⟩
theorem R_empty {α : Type} (d : Kd α) (e base : Nat) {W : World} {g : Nat} (hg : W.heap[g]? = some (.cells #[] e (0, 0))) (hb : base ≤ g) : d.R e W base (fun _ => True) (.slice (some ⟨g, 0, none⟩) 0 0) [] :=
 ⟨fun _ _ => trivial, [], ⟨by simp, .inr ⟨g, 0, #[], rfl, hb, hg, Nat.le_refl _, by simp [maxLen], by simp, by simp⟩⟩, Reps.none _ _⟩
theorem box_row {Rr : S28 → List Value → Prop} {W : World} {g : Nat} {x : S28} {v : Value} (hg : W.heap[g]? = some (.cells #[.int .i64 x.f0, v] 28 (0, 0))) (hR : Rr x [.int .i64 x.f0, v]) : ReadsRow Rr 2 W (some ⟨g, 0, none⟩) 1 [x] := by
 refine ⟨rfl, by omega, fun _ => ⟨_, rfl, fun j p hj => ?_⟩⟩
 cases j with
 | succ j => simp at hj
 | zero =>
  obtain rfl : x = p := by simpa using hj
  refine ⟨_, rfl, hR, fun i u hu => ?_⟩
  rw [Nat.zero_mul, Nat.zero_add, add_plain, blk_cell hg i, ← hu]
  simp
theorem cutG (A : Option Addr) (n c j : Nat) (hj : j ≤ n) (hc : n ≤ c) :
  (∀ W : World, (Instr.slice 53 (.slice A n c) none (some (.int .i64 (j : Int))) none).run Tryz.prog W = .ok (.slice A j c) W) ∧
  (∀ W : World, (Instr.slice 53 (.slice A n c) (some (.int .i64 (j : Int))) none none).run Tryz.prog W = .ok (.slice (if c = j then A else A.map (·.add (j * 2))) (n - j) (c - j)) W) := by
 obtain ⟨i, hi, hz⟩ := Option.map_eq_some_iff.1 infoG
 simp only [Prod.mk.injEq] at hz
 have h1 := cut_to (P := Tryz.prog) 53 28 .i64 Tryz.underlying53 hi A n c (j : Int) (by omega) (by omega) hc
 have h2 := cut_from (P := Tryz.prog) 53 28 .i64 Tryz.underlying53 hi 2 hz.2.1 A n c (j : Int) (by omega) (by omega)
 rw [Int.toNat_natCast] at h1 h2
 exact ⟨h1, h2⟩
end Go.Proofs.YtnncjnjfdhbddaaGreat.Z
namespace Go.Proofs.YtnncjnjfdhbddaaGreat.Z
open Go.RowKit Go.Proofs.YtnncjnjfdhbddaaGreatW.PrintWords Go.Proofs.YtnncjnjfdhbddaaGreatW.PrintLast Go.Proofs.YtnncjnjfdhbddaaGreatW.PrintMore
attribute [local go_sem] max2_int min2_int max_two min_two max_three min_three max_four min_four
set_option linter.unusedVariables false
set_option linter.unusedSimpArgs false
def WRow (b : Nat) (l : List Bool) (W : World) : Prop := W.heap[b]? = some (.cells (l.map Value.bool).toArray 4 (0, 0))
theorem WRow.cell {b : Nat} {l : List Bool} {W : World} (H : WRow b l W) (k : Nat) (hk : k < l.length) : W.cell? ⟨b, k, none⟩ = some (.bool (l.getD k false)) := by
 rw [blk_cell H k]
 simp [hk, List.getD_eq_getElem?_getD]
theorem WRow.set {b : Nat} {l : List Bool} {W : World} (H : WRow b l W) (k : Nat) (c : Bool) : WRow b (l.set k c) (W.setCell ⟨b, k, none⟩ (.bool c)) := by
 have := blk_set H k (.bool c)
 unfold WRow
 rw [this]
 simp [List.map_set]
theorem WRow.C {b : Nat} {l : List Bool} {W : World} (H : WRow b l W) (hl : l.length ≤ 512) : Kd.C Kd.bool W (some ⟨b, 0, none⟩) l.length l := by
 refine ⟨rfl, by omega, fun _ => ⟨_, rfl, fun j p hj => ⟨[.bool p], rfl, rfl, fun i u hu => ?_⟩⟩⟩
 cases i with
 | succ i => simp at hu
 | zero =>
  obtain rfl : Value.bool p = u := by simpa using hu
  show W.cell? ((⟨b, 0, none⟩ : Addr).add (j * 1 + 0)) = _
  rw [add_plain, Nat.mul_one, Nat.add_zero, blk_cell H j]
  simp [hj]
theorem WRow.R {b base : Nat} {l : List Bool} {W : World} (H : WRow b l W) (hb : base ≤ b) (hl : l.length ≤ 512) : Kd.R Kd.bool 4 W base (fun _ => True) (.slice (some ⟨b, 0, none⟩) l.length l.length) l :=
 Kd.R_of_own ⟨by simp [encs], .inr ⟨b, l.length, _, rfl, hb, H, Nat.le_refl _, by unfold maxLen; omega, by simp, by rw [Nat.mul_one]; exact List.take_of_length_le (by simp)⟩⟩ (fun _ _ => trivial)
end Go.Proofs.YtnncjnjfdhbddaaGreat.Z
namespace Go.Proofs.YtnncjnjfdhbddaaGreat.Z
open Go.RowKit Go.Proofs.YtnncjnjfdhbddaaGreatW.PrintWords Go.Proofs.YtnncjnjfdhbddaaGreatW.PrintLast Go.Proofs.YtnncjnjfdhbddaaGreatW.PrintMore
attribute [local go_sem] max2_int min2_int max_two min_two max_three min_three max_four min_four
set_option linter.unusedVariables false
set_option linter.unusedSimpArgs false
def OBox (b : Nat) (v : Value) (W : World) : Prop := W.heap[b]? = some (.cells #[v] 53 (0, 0))
structure LSt (B bw bo : Nat) (w0 : World) (l : List Bool) (v : Value) (xs : List S28) (W : World) : Prop where
 row : WRow bw l W
 box : OBox bo v W
 own : Kd.R k28 28 W B (fun _ => True) v xs
 bel : Below B w0 W
section
variable {B bw bo : Nat} {w0 W W1 : World} {l : List Bool} {v : Value} {xs : List S28}
theorem LSt.le (h : LSt B bw bo w0 l v xs W) (hb : B ≤ bw) : B ≤ W.heap.size := Nat.le_of_lt (Nat.lt_of_le_of_lt hb (blk_lt h.row))
theorem LSt.below (h : LSt B bw bo w0 l v xs W) (hB : B ≤ bw) (hb : Below W.heap.size W W1) : LSt B bw bo w0 l v xs W1 :=
 ⟨blk_below h.row hb, blk_below h.box hb, Kd.R_below h.own hb, Below.trans h.bel (hb.mono (h.le hB))⟩
theorem LSt.set (h : LSt B bw bo w0 l v xs W) (hbw : B ≤ bw) (k : Nat) (c : Bool) : LSt B bw bo w0 (l.set k c) v xs (W.setCell ⟨bw, k, none⟩ (.bool c)) :=
 ⟨h.row.set k c, blk_far (p := ⟨bw, k, none⟩) h.box (blk_ne (g' := bw) h.box h.row (by decide)) _, Kd.R_set h.own h.row (by decide) k _, h.bel.setCell hbw _⟩
theorem LSt.app {v1 : Value} {ys : List S28} (h : LSt B bw bo w0 l v xs W) (hB : B ≤ bw) (hbo : B ≤ bo) (hb : Below W.heap.size W W1) {W2 : World} (ho : Kd.R k28 28 W2 B (fun _ => True) v1 ys) (hg : W1.grownBy W2 v.ownBlock) : LSt B bw bo w0 l v1 ys (W2.setCell ⟨bo, 0, none⟩ v1) := by
 have h1 := h.below hB hb
 have hr : WRow bw l W2 := blk_grown h1.row hg (Kd.R_ne h1.own h1.row (by decide))
 have hx : OBox bo v W2 := blk_grown h1.box hg (Kd.R_ne h1.own h1.box (by decide))
 exact ⟨blk_far (p := ⟨bo, 0, none⟩) hr (blk_ne (g' := bo) hr hx (by decide)) _, blk_set hx 0 _, Kd.R_set ho hx (by decide) 0 _, (h1.bel.grown hg (h1.le hB) (Kd.R_base h1.own)).setCell hbo _⟩
end
def gameV (n : Nat) (l : List Bool) : S28 := ⟨(n : Int), leastL l⟩
def leafB (n : Nat) (clues : List S86) (l : List Bool) : Bool := l.getD (2 ^ n - 1) false && (!(l.getD 0 false) && clues.all (fitsW n l))
def leafL (n : Nat) (clues : List S86) (l : List Bool) : List S28 := if leafB n clues l then [gameV n l] else []
set_option maxRecDepth 100000 in
set_option maxHeartbeats 8000000 in
theorem pzLook_leaf (n : Nat) (hn1 : 1 ≤ n) (hn : n ≤ 4) (clues : List S86) (hcl : ∀ c ∈ clues, clueB (n : Int) c = true) (hcn : clues.length ≤ 1000) (B bw bo : Nat) (w0 : World) (hB0 : B = w0.heap.size) (Ac : Option Addr) (cc : Nat) (hC : Kd.C k86 w0 Ac clues.length clues) (hbw : B ≤ bw) (hbo : B ≤ bo)
  (l : List Bool) (hl : l.length = 2 ^ n) (v : Value) (xs : List S28) (hxs : xs.length ≤ 100000) (W : World) (hS : LSt B bw bo w0 l v xs W) :
  Calls Tryz.prog 83 #[.slice (some ⟨bw, 0, none⟩) (2 ^ n) (2 ^ n), .int .i64 ((2 ^ n : Nat) : Int), .int .i64 (n : Int), .slice Ac clues.length cc, .pointer (some ⟨bo, 0, none⟩)] W fun e w' => e = .returned (.tuple #[]) ∧ ∃ v', LSt B bw bo w0 l v' (xs ++ leafL n clues l) w' := by
 have h16 : 2 ≤ 2 ^ n ∧ 2 ^ n ≤ 16 := by
  have : n = 1 ∨ n = 2 ∨ n = 3 ∨ n = 4 := by omega
  rcases this with h | h | h | h <;> subst h <;> decide
 have hpf := fun (y : S86) (hy : y ∈ clues) W' (hB : Below W.heap.size W W') => spec_pzFits.calls (l.length + 2) y.f0 y.f1 y.f2 (some ⟨bw, 0, none⟩) l.length l (fitsW n l y) W' ((hS.below hbw hB).row.C (by omega)) (Nat.le_refl _) (pzFits_f n hn l hl y (hcl y hy))
 have hgm := fun W' (hB : Below W.heap.size W W') => gmOf_any (n : Int) l (by omega) (some ⟨bw, 0, none⟩) l.length W' ((hS.below hbw hB).row.C (by omega)) (Nat.le_refl _)
 have h0 := hS.row.cell 0 (by omega)
 have h1 := hS.row.cell (2 ^ n - 1) (by omega)
 have hC1 := fun W' (hB : Below W.heap.size W W') => Kd.C_below hC (show Below w0.heap.size w0 W' from hB0 ▸ (hS.below hbw hB).bel)
 have hle : leafL n clues l = if l.getD (2 ^ n - 1) false = true then (if l.getD 0 false = true then [] else if clues.all (fitsW n l) = true then [gameV n l] else []) else [] := by
  unfold leafL leafB
  cases l.getD (2 ^ n - 1) false <;> cases l.getD 0 false <;> simp
 rw [hle]
 rw [hl] at hpf hgm
 clear hcl hC hle hB0
 generalize 2 ^ n = N at *
 obtain ⟨M, hM⟩ : ∃ M, M = N - 1 := ⟨_, rfl⟩
 rw [← hM] at h1 ⊢
 generalize l.getD 0 false = q0 at *
 generalize l.getD M false = q1 at *
 have HPF := Aside0.mk hpf
 have HGM := Aside0.mk hgm
 have HC1 := Aside0.mk hC1
 have HS := Aside0.mk hS
 have HXS := Aside0.mk hxs
 clear hpf hgm hC1 hS hl
 have hsub : (N : Int) - 1 = (M : Int) := by omega
 have hMN : (M : Int) < (N : Int) := by omega
 have hM0 : (0 : Int) ≤ (M : Int) := by omega
 have hN0 : (0 : Int) < (N : Int) := by omega
 clear hM
 cases q1 with
 | false =>
  go_enter Tryz.func83, Tryz.ntmps83
  go_wp2
  refine bodyPost_ret (results_none rfl _ _ _) rfl ?_
  exact ⟨rfl, _, by simpa using HS.out⟩
 | true =>
  cases q0 with
  | true =>
   go_enter Tryz.func83, Tryz.ntmps83
   go_wp2
   refine bodyPost_ret (results_none rfl _ _ _) rfl ?_
   exact ⟨rfl, _, by simpa using HS.out⟩
  | false =>
   generalize hys : (if true = true then (if false = true then [] else if clues.all (fitsW n l) = true then [gameV n l] else []) else []) = ys
   have HYS := Aside0.mk hys
   clear hys
   obtain ⟨L, hL⟩ : ∃ L, L = clues.length := ⟨_, rfl⟩
   rw [← hL] at HC1 hcn ⊢
   have HL := Aside0.mk hL
   clear hL
   go_enter Tryz.func83, Tryz.ntmps83
   go_wp2
   go_loopg [11, 32] L (fun gg _ s32 wq => ∃ k : Nat, k ≤ L ∧ L - k ≤ gg ∧ s32 = .int .i64 k ∧ Aside0 (Below W.heap.size W wq) ∧ Aside0 (∀ i, i < k → fitsW n l (clues.getD i z86) = true))
   case atStart => exact ⟨0, Nat.zero_le _, by omega, rfl, ⟨Below.refl _ _⟩, ⟨fun i hi => absurd hi (Nat.not_lt_zero _)⟩⟩
   case round =>
    obtain ⟨k, hk, hg, rfl, BW, HA⟩ := hrel
    by_cases hlt : k < L
    ·have hltz : (k : Int) < (L : Int) := by omega
     have h0z : (0 : Int) ≤ (k : Int) := by omega
     obtain ⟨ad, e, hc0, hc1, hc2⟩ := at_T86 (HC1.out _ BW.out) (k : Int) h0z hltz
     subst e
     rw [Int.toNat_natCast] at hc0 hc1 hc2
     have hy0 : rd_T86 clues (k : Int) = clues.getD k z86 := by simp [rd_T86]
     have hmem : clues.getD k z86 ∈ clues := by have := HL.out; simp [List.getD_eq_getElem?_getD, show k < clues.length by omega]
     rw [hy0] at hc0 hc1 hc2
     have hcall := HPF.out _ hmem
     clear hy0
     generalize hy : clues.getD k z86 = y at *
     have HY := Aside0.mk hy
     have HM := Aside0.mk hmem
     clear hy hmem h0 h1
     cases hq : fitsW n l y with
     | false =>
      have HCL := Aside0.mk (hq ▸ hcall)
      have HQ := Aside0.mk hq
      clear hq hcall
      go_wp2_with (go_at_call 127; refine (HCL.out _ (Below.trans BW.out (((Below.refl _ _).alloc (Nat.le_refl _) _).mono BW.out.size))).mono ?_; rintro e w2 ⟨rfl, hb2⟩; have HB2 := Aside0.mk hb2; clear hb2)
      refine bodyPost_ret (results_none rfl _ _ _) rfl ?_
      have hno : clues.all (fitsW n l) = false := by
       rw [List.all_eq_false]
       exact ⟨y, HM.out, by rw [HQ.out]; simp⟩
      have hys : ys = [] := by rw [← HYS.out, hno]; rfl
      refine ⟨rfl, v, ?_⟩
      rw [hys, List.append_nil]
      exact HS.out.below hbw (Below.trans (Below.trans BW.out (((Below.refl _ _).alloc (Nat.le_refl _) _).mono BW.out.size)) (HB2.out.mono (by have := BW.out.size; simp; omega)))
     | true =>
      have HCL := Aside0.mk (hq ▸ hcall)
      have HQ := Aside0.mk hq
      clear hq hcall
      go_wp2_with (go_at_call 127; refine (HCL.out _ (Below.trans BW.out (((Below.refl _ _).alloc (Nat.le_refl _) _).mono BW.out.size))).mono ?_; rintro e w2 ⟨rfl, hb2⟩; have HB2 := Aside0.mk hb2; clear hb2)
      go_roundg (L - (k + 1))
      case measure => omega
      case rel =>
       refine ⟨k + 1, by omega, by omega, by go_num, ⟨Below.trans (Below.trans BW.out (((Below.refl _ _).alloc (Nat.le_refl _) _).mono BW.out.size)) (HB2.out.mono (by have := BW.out.size; simp; omega))⟩, ⟨fun i hi => ?_⟩⟩
       by_cases hik : i = k
       ·subst hik; rw [HY.out]; exact HQ.out
       ·exact HA.out i (by omega)
    ·have hltz : ¬ (k : Int) < (L : Int) := by omega
     obtain rfl : k = L := by omega
     have hyes : clues.all (fitsW n l) = true := by
      rw [List.all_eq_true]
      intro y hy
      obtain ⟨i, hi, rfl⟩ := List.mem_iff_getElem.1 hy
      have := HA.out i (by have := HL.out; omega)
      simpa [List.getD_eq_getElem?_getD, hi] using this
     have hys : ys = [gameV n l] := by rw [← HYS.out, hyes]; rfl
     have HYS2 := Aside0.mk hys
     have hst := HS.out.below hbw BW.out
     have hbx : wr.heap[bo]? = some (.cells #[v] 53 (0, 0)) := hst.box
     have HBX := Aside0.mk hbx
     have HST := Aside0.mk hst
     have hcb : wr.cell? ⟨bo, 0, none⟩ = some v := (blk_cell hbx 0).trans rfl
     have hfb := blk_frozen hbx 0
     clear hbx hst h0 h1 hyes hys HPF HC1
     go_wp2
     go_region_law (first | (refine Kd.R_append_step k28 (w0 := w0) B (by rfl) (.tmp 44) (.tmp 48) 53 28 (.agg #[.int .i64 0, .slice none 0 0]) 32 rfl Tryz.underlying53 infoG rfl (by decide) (by decide) v xs (gameV n l) [.int .i64 (n : Int), v2] (fun _ => True) (fun k_ => wr.heap.size ≤ k_ ∧ k_ < w2.heap.size) rfl rfl ?aP ?aQ (fun _ _ => trivial) ?aO ?aB ?aS ?aL ?_; (case aP => exact k28_mkM _ _ _ (gameV n l) (Kd.R_mono (Kd.R_lower (Kd.R_bound HO2.out) (HST.out.le hbw)) (fun k hk => ⟨hk.2.1, hk.2.2.1⟩))); (case aQ => exact fun k hk => ⟨trivial, fun e => by have h1 := Kd.R_lt HST.out.own k e.symm; have h2 := hk.1; omega⟩); (case aO => exact Kd.R_below HST.out.own HBX2.out); (case aB => exact Below.trans HST.out.bel (HBX2.out.mono (HST.out.le hbw))); (case aS => exact Nat.le_trans (HST.out.le hbw) HBX2.out.size); (case aL => have h1 := HXS.out; omega); intro v3 w3 ho hb hg hat; obtain ⟨A3, c3, e3⟩ := Kd.R_slice ho; have hb1 : w3.heap[bo]? = some (.cells #[v] 53 (0, 0)) := blk_grown (blk_below HBX.out HBX2.out) hg (Kd.R_ne HST.out.own HBX.out (by decide)); have hb2 : w3.cell? ⟨bo, 0, none⟩ = some v := (blk_cell hb1 0).trans rfl; have hb3 := blk_frozen hb1 0; have HO3 := Aside0.mk ho; have HG3 := Aside0.mk hg; clear ho hb hg hat hb1; subst e3) | (go_simp; go_at_call 128; refine (HGM.out _ ?sB).mono ?_; (case sB => exact (by (with_reducible repeat (first | exact BW.out | apply below_alloc | apply pw_below_drewN | apply below_drew)))); rintro e w2 ⟨v2, rfl, ho2, hb2⟩; have HO2 := Aside0.mk ho2; have HBX2 := Aside0.mk (show Below wr.heap.size wr w2 from Below.trans (by (with_reducible repeat (first | exact Below.refl _ _ | apply below_alloc | apply pw_below_drewN | apply below_drew))) hb2); have hcb2 : w2.cell? ⟨bo, 0, none⟩ = some v := (blk_cell (blk_below HBX.out HBX2.out) 0).trans rfl; have hcb3 : (∀ o, (w2.alloc o).cell? ⟨bo, 0, none⟩ = some v) := (fun o => (blk_cell (blk_alloc (blk_below HBX.out HBX2.out) o) 0).trans rfl); clear ho2 hb2))
     all_goals
      go_wp2
      refine bodyPost_ret (results_none rfl _ _ _) rfl ?_
      have hfin := HST.out.app hbw hbo HBX2.out HO3.out HG3.out
      rw [show (xs ++ [gameV n l]).length = xs.length + 1 by simp, ← HYS2.out] at hfin
      exact ⟨rfl, _, hfin⟩
end Go.Proofs.YtnncjnjfdhbddaaGreat.Z
namespace Go.Proofs.YtnncjnjfdhbddaaGreat.Z
open Go.RowKit Go.Proofs.YtnncjnjfdhbddaaGreatW.PrintWords Go.Proofs.YtnncjnjfdhbddaaGreatW.PrintLast Go.Proofs.YtnncjnjfdhbddaaGreatW.PrintMore
attribute [local go_sem] max2_int min2_int max_two min_two max_three min_three max_four min_four
set_option linter.unusedVariables false
set_option linter.unusedSimpArgs false
def mustB (pre : List Bool) : Bool := (setN pre.length).any fun i => pre.getD (pre.length - 2 ^ i) false
def lookP (n : Nat) (clues : List S86) : Nat → List Bool → List S28
 | 0, pre => leafL n clues pre
 | d + 1, pre => lookP n clues d (pre ++ [true]) ++ (if mustB pre = true then [] else lookP n clues d (pre ++ [false]))
theorem lookP_len (n : Nat) (clues : List S86) : ∀ d pre, (lookP n clues d pre).length ≤ 2 ^ d
 | 0, pre => by
  rw [lookP, leafL]
  split <;> simp
 | d + 1, pre => by
  have h1 := lookP_len n clues d (pre ++ [true])
  have h2 := lookP_len n clues d (pre ++ [false])
  rw [lookP, List.length_append, Nat.pow_succ]
  split
  ·simp; omega
  ·omega
theorem take_set_next (l : List Bool) (b : Nat) (c : Bool) (h : b < l.length) : (l.set b c).take (b + 1) = l.take b ++ [c] := by
 rw [List.take_succ_eq_append_getElem (by simpa using h)]
 simp [List.take_set_of_le]
theorem getD_take (l : List Bool) (b j : Nat) (h : j < b) : (l.take b).getD j false = l.getD j false := by
 simp [List.getD_eq_getElem?_getD, List.getElem?_take, h]
structure LPost (B bw bo : Nat) (w0 : World) (N b : Nat) (pre : List Bool) (ys : List S28) (e : Ending) (w' : World) : Prop where
 ret : e = .returned (.tuple #[])
 st : ∃ v' l', LSt B bw bo w0 l' v' ys w' ∧ l'.length = N ∧ l'.take b = pre
set_option maxRecDepth 100000 in
set_option maxHeartbeats 8000000 in
theorem pzLook_step (n : Nat) (hn1 : 1 ≤ n) (hn : n ≤ 4) (clues : List S86) (L cc : Nat) (Ac : Option Addr) (B bw bo : Nat) (w0 : World) (hbw : B ≤ bw) (N : Nat) (hN : N ≤ 16) (b d : Nat) (hbd : b + (d + 1) = N)
  (ih : ∀ (l : List Bool) (v : Value) (xs : List S28) (W : World), l.length = N → xs.length + 2 ^ d ≤ 100000 → LSt B bw bo w0 l v xs W →
   Calls Tryz.prog 83 #[.slice (some ⟨bw, 0, none⟩) N N, .int .i64 ((b : Int) + 1), .int .i64 (n : Int), .slice Ac L cc, .pointer (some ⟨bo, 0, none⟩)] W (LPost B bw bo w0 N (b + 1) (l.take (b + 1)) (xs ++ lookP n clues d (l.take (b + 1)))))
  (l : List Bool) (hl : l.length = N) (v : Value) (xs : List S28) (hxs : xs.length + 2 ^ (d + 1) ≤ 100000) (W : World) (hS : LSt B bw bo w0 l v xs W) :
  Calls Tryz.prog 83 #[.slice (some ⟨bw, 0, none⟩) N N, .int .i64 (b : Int), .int .i64 (n : Int), .slice Ac L cc, .pointer (some ⟨bo, 0, none⟩)] W (LPost B bw bo w0 N b (l.take b) (xs ++ lookP n clues (d + 1) (l.take b))) := by
 have hbN : b < N := by omega
 have hvl := fun w => spec_voList.calls (b : Int) (setI b) w (by rw [spec_voList.f, if_pos ⟨by omega, by omega⟩, Int.toNat_natCast])
 have hplen : (l.take b).length = b := by rw [List.length_take]; omega
 have hmust : mustB (l.take b) = (setN b).any fun i => (l.take b).getD (b - 2 ^ i) false := by rw [mustB, hplen]
 have ht1 := take_set_next l b true (by omega)
 have hlen1 := lookP_len n clues d (l.take b ++ [true])
 have hlk : lookP n clues (d + 1) (l.take b) = lookP n clues d (l.take b ++ [true]) ++ (if mustB (l.take b) = true then [] else lookP n clues d (l.take b ++ [false])) := rfl
 have HVL := Aside0.mk hvl
 have HIH := Aside0.mk ih
 have HS := Aside0.mk hS
 have HXS := Aside0.mk hxs
 have HL := Aside0.mk hl
 have HP := Aside0.mk (And.intro hplen (And.intro ht1 (And.intro hlen1 hlk)))
 generalize hm : mustB (l.take b) = must at *
 have HMU := Aside0.mk hmust
 clear hvl ih hS hxs hl hplen ht1 hlen1 hlk hm hmust
 have hcb : W.cell? ⟨bw, b, none⟩ = some (.bool (l.getD b false)) := HS.out.row.cell b (by have := HL.out; omega)
 have arms : True := trivial
 have hneq : ((b : Int) == (N : Int)) = false := beq_eq_false_iff_ne.mpr (by omega)
 have hbz : (b : Int) < (N : Int) := by omega
 have hb0 : (0 : Int) ≤ (b : Int) := by omega
 clear hbd
 go_enter Tryz.func83, Tryz.ntmps83
 go_wp2_with (go_at_call 96; refine (HVL.out _).mono ?_; rintro e w2 ⟨v2, rfl, ho, hb2⟩; obtain ⟨A2, c2, rfl, hl2, hC2⟩ := Kd.R_reads ho; have HC2 := Aside0.mk hC2; have HB2 := Aside0.mk hb2; clear ho hb2 hC2 hl2)
 have hml : (setI b).length = (setN b).length := by simp [setI]
 have hmn : ∀ j, j < (setN b).length → rd (setI b) (j : Int) = (((setN b).getD j 0 : Nat) : Int) := fun j hj => by simp [rd, setI, List.getD_eq_getElem?_getD, hj]
 have hmb : ∀ j, j < (setN b).length → (setN b).getD j 0 < 9 ∧ 2 ^ (setN b).getD j 0 ≤ b := fun j hj => by
  have h1 : (setN b).getD j 0 ∈ setN b := by simp [List.getD_eq_getElem?_getD, hj]
  have h2 := (List.mem_filter.1 h1).2
  have h3 := Nat.ge_two_pow_of_testBit h2
  refine ⟨?_, h3⟩
  rcases Nat.lt_or_ge ((setN b).getD j 0) 9 with h | h
  ·exact h
  ·have := Nat.pow_le_pow_right (n := 2) (by decide) h
   omega
 obtain ⟨M, hM⟩ : ∃ M, M = (setI b).length := ⟨_, rfl⟩
 rw [← hM] at HC2 hml ⊢
 have hM62 : M ≤ 62 := by rw [hml, setN]; exact Nat.le_trans (List.length_filter_le _ _) (by simp)
 have HMN := Aside0.mk hmn
 have HMB := Aside0.mk hmb
 have HML := Aside0.mk hml
 have HM := Aside0.mk hM
 clear hmn hmb hml hM hcb
 go_loopg [12, 14, 54] M (fun gg s12 _ s54 wq => ∃ j : Nat, j ≤ M ∧ M - j ≤ gg ∧ s54 = .int .i64 j ∧ s12 = .bool (((setN b).take j).any fun i => (l.take b).getD (b - 2 ^ i) false) ∧ Aside0 (Below W.heap.size W wq) ∧ Aside0 (Kd.C (Kd.int .i64) wq A2 M (setI b)))
 case atStart => exact ⟨0, Nat.zero_le _, by omega, rfl, by simp, HB2, HC2⟩
 case round =>
  clear HC2 HB2
  obtain ⟨j, hj, hg2, rfl, rfl, BW, HC2⟩ := hrel
  by_cases hjl : j < M
  ·have hjz : (j : Int) < (M : Int) := by omega
   have hjz0 : (0 : Int) ≤ (j : Int) := by omega
   obtain ⟨ad2, e, hcell2⟩ := Kd.at_int HC2.out (j : Int) hjz0 (by omega)
   subst e
   have hjm : j < (setN b).length := by have := HML.out; omega
   rw [HMN.out j hjm, Int.toNat_natCast] at hcell2
   have hib := HMB.out j hjm
   have htk : (setN b).take (j + 1) = (setN b).take j ++ [(setN b).getD j 0] := by rw [List.take_succ_eq_append_getElem hjm]; simp [List.getD_eq_getElem?_getD, hjm]
   generalize (setN b).getD j 0 = i at *
   have HTK := Aside0.mk htk
   clear htk hjm
   obtain ⟨p, hp, hw1, hw2, hpk, hp9⟩ := pow_facts i b hib.1 hib.2
   have hp0 : 0 < p := hp ▸ Nat.two_pow_pos i
   have hi0 : (0 : Int) ≤ (i : Int) := Int.natCast_nonneg _
   have HW := Aside0.mk (And.intro hw1 hw2)
   clear hw1 hw2
   obtain ⟨x, hx⟩ : ∃ x, x = b - p := ⟨_, rfl⟩
   have hsub : (b : Int) - (p : Int) = (x : Int) := by omega
   have hxb : x < b := by omega
   have hcell3 : wr.cell? ⟨bw, x, none⟩ = some (.bool (l.getD x false)) := (HS.out.below hbw BW.out).row.cell x (by have := HL.out; omega)
   rw [← getD_take l b x hxb, hx, hp] at hcell3
   generalize hbb : (l.take b).getD (b - 2 ^ i) false = b2 at *
   have HBB := Aside0.mk hbb
   rw [← hp, ← hx] at hcell3
   have hx0 : (0 : Int) ≤ (x : Int) := by omega
   have hxz : (x : Int) < (N : Int) := by omega
   clear hbb hp hx hib
   generalize hacc : ((setN b).take j).any (fun i => (l.take b).getD (b - 2 ^ i) false) = acc at *
   have HACC := Aside0.mk hacc
   clear hacc
   have hw1 := HW.out.1
   have hw2 := HW.out.2
   cases acc with
   | true =>
    go_wp2
    clear hw1 hw2 hsub
    go_roundg (M - (j + 1))
    case measure => omega
    case rel =>
     refine ⟨j + 1, by omega, by omega, by go_num, ?_, BW, HC2⟩
     rw [HTK.out, List.any_append, HACC.out]; rfl
   | false =>
    go_wp2
    clear hw1 hw2 hsub
    go_roundg (M - (j + 1))
    case measure => omega
    case rel =>
     refine ⟨j + 1, by omega, by omega, by go_num, ?_, BW, HC2⟩
     rw [HTK.out, List.any_append, HACC.out]
     simp only [List.any_cons, List.any_nil, HBB.out, Bool.false_or, Bool.or_false]
  ·have hjz : ¬ (j : Int) < (M : Int) := by omega
   obtain rfl : j = M := by omega
   have htk : (setN b).take j = setN b := List.take_of_length_le (by rw [HML.out]; exact Nat.le_refl _)
   rw [htk, ← HMU.out]
   have hst := HS.out.below hbw BW.out
   have hcb : wr.cell? ⟨bw, b, none⟩ = some (.bool (l.getD b false)) := hst.row.cell b (by have := HL.out; omega)
   have hfb := blk_frozen hst.row b
   have hs1 := hst.set hbw b true
   have hl1 : (l.set b true).length = N := by rw [List.length_set]; exact HL.out
   obtain ⟨hplen, ht1, hlen1, hlk⟩ := HP.out
   have hx1 : xs.length + 2 ^ d ≤ 100000 := by have := HXS.out; rw [Nat.pow_succ] at this; omega
   have hc1 := HIH.out (l.set b true) v xs _ hl1 hx1 hs1
   rw [ht1] at hc1
   have HC1 := Aside0.mk hc1
   have HLK := Aside0.mk hlk
   have HLEN := Aside0.mk hlen1
   have HPL := Aside0.mk hplen
   have HT1 := Aside0.mk ht1
   clear hst hs1 hl1 hc1 hlk hlen1 hplen ht1 htk hx1 HC2
   have tok1 : True := trivial
   cases must with
   | true =>
    go_wp2_with (go_at_call 83; refine HC1.out.mono ?_; rintro e w5 ⟨rfl, v5, l5, hs5, hl5, ht5⟩; have HS5 := Aside0.mk hs5; have HL5 := Aside0.mk (And.intro hl5 ht5); clear hs5 hl5 ht5)
    go_end0
    have hs5 := HS5.out
    refine ⟨rfl, v5, l5, ?_, HL5.out.1, ?_⟩
    ·rw [HLK.out]; simp only [if_true, List.append_nil]; exact hs5
    ·have h1 := HL5.out.2
     have h2 := congrArg (List.take b) h1
     rw [List.take_take, Nat.min_eq_left (Nat.le_succ b), List.take_append_of_le_length (Nat.le_of_eq HPL.out.symm), List.take_take, Nat.min_self] at h2
     exact h2
   | false =>
    go_wp2_with (go_at_call 83; clear tok1; refine HC1.out.mono ?_; rintro e w5 ⟨rfl, v5, l5, hs5, hl5, ht5⟩; have hcb5 : w5.cell? ⟨bw, b, none⟩ = some (.bool (l5.getD b false)) := hs5.row.cell b (by omega); have hfb5 := blk_frozen hs5.row b; have HS5 := Aside0.mk hs5; have HL5 := Aside0.mk (And.intro hl5 ht5); clear hs5 hl5 ht5)
    have hl5 : l5.length = N := HL5.out.1
    have hl6 : (l5.set b false).length = N := by rw [List.length_set]; exact hl5
    have ht6 : (l5.set b false).take (b + 1) = l.take b ++ [false] := by
     rw [take_set_next l5 b false (by omega)]
     congr 1
     have h2 := congrArg (List.take b) HL5.out.2
     rw [List.take_take, Nat.min_eq_left (Nat.le_succ b), List.take_append_of_le_length (Nat.le_of_eq HPL.out.symm), List.take_take, Nat.min_self] at h2
     exact h2
    have hx6 : (xs ++ lookP n clues d (l.take b ++ [true])).length + 2 ^ d ≤ 100000 := by
     have h1 := HXS.out; have h2 := HLEN.out; rw [Nat.pow_succ] at h1; rw [List.length_append]; omega
    have hc6 := HIH.out (l5.set b false) v5 _ _ hl6 hx6 (HS5.out.set hbw b false)
    rw [ht6] at hc6
    have HC6 := Aside0.mk hc6
    have HT6 := Aside0.mk ht6
    clear hl5 hl6 ht6 hx6 hc6 HC1
    go_wp2_with (go_at_call 83; refine HC6.out.mono ?_; rintro e w7 ⟨rfl, v7, l7, hs7, hl7, ht7⟩; have HS7 := Aside0.mk hs7; have HL7 := Aside0.mk (And.intro hl7 ht7); clear hs7 hl7 ht7)
    go_end0
    have hs7 := HS7.out
    refine ⟨rfl, v7, l7, ?_, HL7.out.1, ?_⟩
    ·rw [HLK.out]; simp only [if_false, Bool.false_eq_true]; rw [← List.append_assoc]; exact hs7
    ·have h1 := HL7.out.2
     have h2 := congrArg (List.take b) h1
     rw [List.take_take, Nat.min_eq_left (Nat.le_succ b), List.take_append_of_le_length (Nat.le_of_eq HPL.out.symm), List.take_take, Nat.min_self] at h2
     exact h2
theorem pzLook_any (n : Nat) (hn1 : 1 ≤ n) (hn : n ≤ 4) (clues : List S86) (hcl : ∀ c ∈ clues, clueB (n : Int) c = true) (hcn : clues.length ≤ 1000) (B bw bo : Nat) (w0 : World) (hB0 : B = w0.heap.size) (Ac : Option Addr) (cc : Nat) (hC : Kd.C k86 w0 Ac clues.length clues) (hbw : B ≤ bw) (hbo : B ≤ bo) :
  ∀ (d b : Nat), b + d = 2 ^ n → ∀ (l : List Bool) (v : Value) (xs : List S28) (W : World), l.length = 2 ^ n → xs.length + 2 ^ d ≤ 100000 → LSt B bw bo w0 l v xs W →
   Calls Tryz.prog 83 #[.slice (some ⟨bw, 0, none⟩) (2 ^ n) (2 ^ n), .int .i64 (b : Int), .int .i64 (n : Int), .slice Ac clues.length cc, .pointer (some ⟨bo, 0, none⟩)] W (LPost B bw bo w0 (2 ^ n) b (l.take b) (xs ++ lookP n clues d (l.take b)))
 | 0, b, hb, l, v, xs, W, hl, hx, hS => by
  obtain rfl : b = 2 ^ n := by omega
  rw [List.take_of_length_le (Nat.le_of_eq hl), lookP]
  exact (pzLook_leaf n hn1 hn clues hcl hcn B bw bo w0 hB0 Ac cc hC hbw hbo l hl v xs (by omega) W hS).mono fun e w' ⟨he, v', hs⟩ => ⟨he, v', l, hs, hl, List.take_of_length_le (Nat.le_of_eq hl)⟩
 | d + 1, b, hb, l, v, xs, W, hl, hx, hS =>
  pzLook_step n hn1 hn clues clues.length cc Ac B bw bo w0 hbw (2 ^ n) (Nat.le_trans (Nat.pow_le_pow_right (by decide) hn) (by decide)) b d hb
   (fun l' v' xs' W' h1 h2 h3 => pzLook_any n hn1 hn clues hcl hcn B bw bo w0 hB0 Ac cc hC hbw hbo d (b + 1) (by omega) l' v' xs' W' h1 h2 h3) l hl v xs hx W hS
end Go.Proofs.YtnncjnjfdhbddaaGreat.Z
namespace Go.Proofs.YtnncjnjfdhbddaaGreat.Z
open Go.RowKit Go.Proofs.YtnncjnjfdhbddaaGreatW.PrintWords Go.Proofs.YtnncjnjfdhbddaaGreatW.PrintLast Go.Proofs.YtnncjnjfdhbddaaGreatW.PrintMore
attribute [local go_sem] max2_int min2_int max_two min_two max_three min_three max_four min_four
set_option linter.unusedVariables false
set_option linter.unusedSimpArgs false
def small9 (g : S28) : Prop := g.f1.length ≤ 1000 ∧ ∀ s ∈ g.f1, s.length ≤ 9
def foundG (n : Nat) (clues : List S86) : List S28 := lookP n clues (2 ^ n) []
theorem lookP_mem (n : Nat) (clues : List S86) : ∀ d pre, ∀ x ∈ lookP n clues d pre, ∃ l, l.length = pre.length + d ∧ x = gameV n l
 | 0, pre, x, hx => by
  rw [lookP, leafL] at hx
  split at hx
  ·exact ⟨pre, rfl, by simpa using hx⟩
  ·simp at hx
 | d + 1, pre, x, hx => by
  rw [lookP] at hx
  rcases List.mem_append.1 hx with h | h
  ·obtain ⟨l, h1, h2⟩ := lookP_mem n clues d _ x h
   exact ⟨l, by rw [h1]; simp; omega, h2⟩
  ·split at h
   ·simp at h
   ·obtain ⟨l, h1, h2⟩ := lookP_mem n clues d _ x h
    exact ⟨l, by rw [h1]; simp; omega, h2⟩
theorem setI_small : ∀ m, m < 16 → (setI m).length ≤ 9 := by decide +kernel
theorem found_small (n : Nat) (clues : List S86) (hn : n ≤ 4) : ∀ x ∈ foundG n clues, small9 x := by
 intro x hx
 have h16 : 2 ^ n ≤ 16 := Nat.le_trans (Nat.pow_le_pow_right (by decide) hn) (by decide)
 obtain ⟨l, h1, rfl⟩ := lookP_mem n clues _ _ x hx
 have hl : l.length ≤ 16 := by rw [h1]; simpa using h16
 refine ⟨?_, fun s hs => ?_⟩
 ·show (srtP befB (partS (leastV l) l.length)).length ≤ 1000
  rw [srtP_len]
  have := partS_len (leastV l) l.length
  omega
 ·have h2 := (srtP_perm befB _).mem_iff.1 hs
  obtain ⟨m, hm, rfl⟩ := List.mem_map.1 h2
  exact setI_small m (by have := List.mem_range.1 (List.mem_filter.1 hm).1; omega)
set_option maxRecDepth 100000 in
set_option maxHeartbeats 8000000 in
theorem pzAll_any (n : Nat) (hn1 : 1 ≤ n) (hn : n ≤ 4) (clues : List S86) (hcl : ∀ c ∈ clues, clueB (n : Int) c = true) (hcn : clues.length ≤ 1000) (Ac : Option Addr) (cc : Nat) (w : World) (hC : Kd.C k86 w Ac clues.length clues) :
  Calls Tryz.prog 52 #[.int .i64 (n : Int), .slice Ac clues.length cc] w fun e w' => ∃ v : Value, e = .returned v ∧ Kd.R k28 28 w' w.heap.size (fun _ => True) v (srtP befG (foundG n clues)) ∧ Below w.heap.size w w' := by
 have h4 : wrap64 (2 ^ n) = ((2 ^ n : Nat) : Int) := wrap_pow (by omega) rfl
 have h4m : wrap64 (2 ^ min n 64) = ((2 ^ n : Nat) : Int) := by rw [show min n 64 = n by omega]; exact h4
 have h16 : 2 ^ n ≤ 16 := Nat.le_trans (Nat.pow_le_pow_right (by decide) hn) (by decide)
 have hlook : ∀ (bw bo : Nat) (hbw : w.heap.size ≤ bw) (hbo : w.heap.size ≤ bo) (W : World) (hS : LSt w.heap.size bw bo w (List.replicate (2 ^ n) false) (.slice none 0 0) [] W),
   Calls Tryz.prog 83 #[.slice (some ⟨bw, 0, none⟩) (2 ^ n) (2 ^ n), .int .i64 0, .int .i64 (n : Int), .slice Ac clues.length cc, .pointer (some ⟨bo, 0, none⟩)] W (LPost w.heap.size bw bo w (2 ^ n) 0 [] (foundG n clues)) := fun bw bo hbw hbo W hS =>
  pzLook_any n hn1 hn clues hcl hcn w.heap.size bw bo w rfl Ac cc hC hbw hbo (2 ^ n) 0 (by omega) (List.replicate (2 ^ n) false) (.slice none 0 0) [] W (by simp) (by
   have : 2 ^ 2 ^ n ≤ 2 ^ 16 := Nat.pow_le_pow_right (by decide) h16
   simp only [List.length_nil, Nat.zero_add]
   exact Nat.le_trans this (by decide)) hS
 have hfl : (foundG n clues).length ≤ 65536 := Nat.le_trans (lookP_len n clues (2 ^ n) []) (Nat.pow_le_pow_right (by decide) h16)
 have HX2 := Aside0.mk (found_small n clues hn)
 generalize foundG n clues = xs at *
 have HL := Aside0.mk (fun k => srtP_len befG (xs.take k))
 have kmk := print_make_of (P := Tryz.prog) 66 4 (.bool false) 1 Tryz.underlying66 infoBo rfl (by decide) (2 ^ n) (by omega)
 have HLK := Aside0.mk hlook
 clear hlook hC hcl hcn
 generalize clues.length = L at *
 obtain ⟨T, hT⟩ : ∃ T, T = 2 ^ n := ⟨_, rfl⟩
 have HT := Aside0.mk hT
 rw [← hT] at h4 h4m kmk HLK h16
 clear hT
 obtain ⟨N, hN⟩ : ∃ N, N = xs.length := ⟨_, rfl⟩
 have HN := Aside0.mk hN
 have hfl2 : N ≤ 65536 := hN ▸ hfl
 clear hN hfl
 go_enter Tryz.func52, Tryz.ntmps52
 go_wp2_with (go_at_call 83; go_must (refine (HLK.out (w.heap.size + 1) w.heap.size (by omega) (by omega) _ ?sS).mono ?_); (case sS => exact ⟨by unfold WRow; rw [heap2_1, List.map_replicate, madeCells_one], heap2_0 _ _ _, Kd.R_nil _ _ _ _ _, (((Below.refl _ _).alloc (Nat.le_refl _) _).alloc (by simp) _)⟩); rintro e w1 ⟨rfl, v1, l1, hs1, hl1, ht1⟩; have hq1 : w1.cell? ⟨w.heap.size, 0, none⟩ = some v1 := (blk_cell hs1.box 0).trans rfl; obtain ⟨A0, c0, e0⟩ := Kd.R_slice hs1.own; rw [← HN.out] at e0; subst e0; have HX := Aside0.mk hs1.own; have HB1 := Aside0.mk hs1.bel; have HW1 := Aside0.mk hs1.bel.size; clear hs1 hl1 ht1)
 clear kmk h4 h4m
 go_loopg [6, 8, 9, 10, 19] N (fun gg s3 _ _ _ s10 wr => ∃ kk : Nat, kk ≤ N ∧ N - kk ≤ gg ∧ s10 = .int .i64 kk ∧ ∃ Ao co, s3 = .slice Ao kk co ∧ Aside0 (Below w1.heap.size w1 wr) ∧ Aside0 (Kd.R k28 28 wr w.heap.size (fun _ => True) s3 (srtP befG (xs.take kk))))
 case atStart => exact ⟨0, Nat.zero_le _, by omega, rfl, none, 0, rfl, ⟨Below.refl _ _⟩, ⟨Kd.R_nil _ _ _ _ _⟩⟩
 case round =>
  obtain ⟨kk, hkk, hg, rfl, Ao, co, rfl, BW, HO⟩ := hrel
  by_cases hlt : kk < N
  ·have hltz : (kk : Int) < (N : Int) := by omega
   have h0z : (0 : Int) ≤ (kk : Int) := by omega
   obtain ⟨ad, A1, c1, e, hcell0, hcell1, hl1, hC1, hM1⟩ := game_at (Kd.R_below HX.out BW.out) kk hlt
   have hxm : xs.getD kk z28 ∈ xs := by have := HN.out; simp [List.getD_eq_getElem?_getD, show kk < xs.length by omega]
   have hx1 := HX2.out _ hxm
   have hst := srtP_take befG xs z28 kk (by have := HN.out; omega)
   generalize xs.getD kk z28 = x at *
   have hlo : (srtP befG (xs.take kk)).length = kk := by rw [HL.out, List.length_take]; have := HN.out; omega
   have hom : ∀ y ∈ srtP befG (xs.take kk), small9 y := by
    intro y hy
    exact HX2.out y (List.mem_of_mem_take ((srtP_perm befG _).mem_iff.1 hy))
   have HST := Aside0.mk hst
   have HOM := Aside0.mk hom
   have HLO := Aside0.mk hlo
   have HXS1 := Aside0.mk hx1
   have HW1b := Aside0.mk (Nat.le_trans HW1.out BW.out.size)
   subst e
   clear hst hom hlo hxm hx1
   generalize srtP befG (xs.take kk) = os at *
   have HC0 := Aside0.mk hC1
   have HM0 := Aside0.mk hM1
   clear hC1 hM1
   obtain ⟨bg, hbg⟩ : ∃ bg, bg = wr.heap.size := ⟨_, rfl⟩
   have HBGE := Aside0.mk hbg
   go_wp2
   rw [← hbg]
   obtain ⟨wo, hwo⟩ : ∃ wo, wo = wr.alloc (.cells #[.int .i64 x.f0, .slice A1 x.f1.length c1] 28) := ⟨_, rfl⟩
   rw [← hwo]
   have HBW0 := Aside0.mk (show Below wr.heap.size wr wo from hwo ▸ (Below.refl _ _).alloc (Nat.le_refl _) _)
   have hb0 : wo.heap[bg]? = some (.cells #[.int .i64 x.f0, .slice A1 x.f1.length c1] 28 (0, 0)) := by rw [hwo, hbg]; exact heap1_0 _ _
   have HBW1 := Aside0.mk (Below.trans BW.out (HBW0.out.mono BW.out.size))
   have HO0 := Aside0.mk (Kd.R_below HO.out HBW0.out)
   have HCG := Aside0.mk (Kd.C_below HC0.out HBW0.out)
   have HMG := Aside0.mk (Kd.M_below HM0.out HBW0.out)
   have HBG0 := Aside0.mk hb0
   have hoz := HBW0.out.size
   have HOZ := Aside0.mk hoz
   clear hcell0 hcell1 hbg hwo hb0 hoz HO BW HC0 HM0
   go_loopg [9] kk (fun gg s6 wq => ∃ k : Nat, k ≤ kk ∧ kk - k ≤ gg ∧ s6 = .int .i64 k ∧ Aside0 (Below w1.heap.size w1 wq) ∧ Aside0 (Below wo.heap.size wo wq) ∧ Aside0 (∀ i, i < k → befG (os.getD i z28) x = true))
   case atStart => exact ⟨0, Nat.zero_le _, by omega, rfl, HBW1, ⟨Below.refl _ _⟩, ⟨fun i hi => absurd hi (Nat.not_lt_zero _)⟩⟩
   case round =>
    obtain ⟨k, hk, hg2, rfl, BWr, BWo, HA⟩ := hrel
    have HBG := Aside0.mk (blk_below HBG0.out BWo.out)
    have HO := Aside0.mk (Kd.R_below HO0.out BWo.out)
    have HC1 := Aside0.mk (Kd.C_below HCG.out BWo.out)
    have HM1' := Kd.M_below HMG.out BWo.out
    have HM1 := Aside0.mk (show k28.M wr w.heap.size (fun k => k < wr.heap.size) x [.int .i64 x.f0, .slice A1 x.f1.length c1] from k28.M_mono (fun j hj => Nat.lt_of_lt_of_le hj (Nat.le_trans HOZ.out BWo.out.size)) HM1')
    obtain ⟨_, _, he3, hkco, hrw⟩ := R_rowsM HO.out
    have HLO' := HLO.out
    injection he3 with e4 e6 e5
    clear e6
    rw [← e4, HLO'] at hrw
    rw [← e5, HLO'] at hkco
    have HRW := Aside0.mk (show ReadsRow (k28.M wr w.heap.size (fun k => k < wr.heap.size)) 2 wr Ao kk os from hrw)
    have HCO := Aside0.mk hkco
    have hlgb : bg < wr.heap.size := blk_lt HBG.out
    have hq0 : wr.cell? ⟨bg, 0, none⟩ = some (.int .i64 x.f0) := (blk_cell HBG.out 0).trans rfl
    have hq1 : wr.cell? ⟨bg, 1, none⟩ = some (.slice A1 x.f1.length c1) := (blk_cell HBG.out 1).trans rfl
    have hqa : ∀ o, (wr.alloc o).cell? ⟨bg, 0, none⟩ = some (.int .i64 x.f0) ∧ (wr.alloc o).cell? ⟨bg, 1, none⟩ = some (.slice A1 x.f1.length c1) := fun o => ⟨(blk_cell (blk_alloc HBG.out o) 0).trans rfl, (blk_cell (blk_alloc HBG.out o) 1).trans rfl⟩
    have hqd : ∀ d o, ((wr.drewN d).alloc o).cell? ⟨bg, 0, none⟩ = some (.int .i64 x.f0) ∧ ((wr.drewN d).alloc o).cell? ⟨bg, 1, none⟩ = some (.slice A1 x.f1.length c1) := fun d o => ⟨(blk_cell (blk_alloc (blk_drewN HBG.out d) o) 0).trans rfl, (blk_cell (blk_alloc (blk_drewN HBG.out d) o) 1).trans rfl⟩
    clear hrw hkco e4 e5 HLO' HM1'
    by_cases hkl : k < kk
    ·have hkz : (k : Int) < (kk : Int) := by omega
     have hkz0 : (0 : Int) ≤ (k : Int) := by omega
     have hkd : decide ((k : Int) < (kk : Int)) = true := decide_eq_true hkz
     obtain ⟨ad2, A2, c2, e2, hc20, hc21, hl2, hC2, _⟩ := game_at HO.out k hkl
     have hy1 := HOM.out (os.getD k z28) (by have := HLO.out; simp [List.getD_eq_getElem?_getD, show k < os.length by omega])
     generalize hyy : os.getD k z28 = y at *
     have HYY := Aside0.mk hyy
     have hgb := fun W' (hB : Below wr.heap.size wr W') => spec_gmBefore.calls (y.f1.length + 21) y.f0 A2 c2 y.f1 x.f0 A1 c1 x.f1 (befG y x) W' (Kd.C_below hC2 hB) hl2 (Kd.C_below HC1.out hB) hl1 (gmBefore_f _ _ hy1.1 hy1.2 HXS1.out.2 _ _)
     subst e2
     clear hC2 hyy
     cases hbf : befG y x with
     | true =>
      rw [hbf] at hgb
      have HBF := Aside0.mk hbf
      have HGB := Aside0.mk hgb
      clear hbf hgb
      go_wp2
      go_region_held3 (fun w' => w'.cell? ⟨bg, 0, none⟩ = some (.int .i64 x.f0) ∧ w'.cell? ⟨bg, 1, none⟩ = some (.slice A1 x.f1.length c1) ∧ w'.cell? (ad2.add (k * 2)) = some (.int .i64 y.f0) ∧ w'.cell? ⟨(ad2.add (k * 2)).block, (ad2.add (k * 2)).off + 1, none⟩ = some (.slice A2 y.f1.length c2)) (go_keep)
       (first | (go_at_call 84; refine (HGB.out _ (by (with_reducible repeat (first | exact Below.refl _ _ | apply below_alloc | apply pw_below_drewN | apply below_drew)))).mono ?_; rintro e w5 ⟨rfl, hb5⟩; have HB5 := Aside0.mk (show Below wr.heap.size wr w5 from Below.trans (by (with_reducible repeat (first | exact Below.refl _ _ | apply below_alloc | apply pw_below_drewN | apply below_drew))) hb5); have g0 : w5.cell? ⟨bg, 0, none⟩ = some (.int .i64 x.f0) := pw_cell_below HB5.out hq0; have g1 : w5.cell? ⟨bg, 1, none⟩ = some (.slice A1 x.f1.length c1) := pw_cell_below HB5.out hq1; have g2 : w5.cell? (ad2.add (k * 2)) = some (.int .i64 y.f0) := pw_cell_below HB5.out hc20; have g3 : w5.cell? ⟨(ad2.add (k * 2)).block, (ad2.add (k * 2)).off + 1, none⟩ = some (.slice A2 y.f1.length c2) := pw_cell_below HB5.out hc21; clear hb5))
      go_wp2
      go_roundg (kk - (k + 1))
      case measure => omega
      case rel =>
       refine ⟨k + 1, by omega, by omega, by go_num, ⟨Below.trans BWr.out (HB5.out.mono BWr.out.size)⟩, ⟨Below.trans BWo.out (HB5.out.mono BWo.out.size)⟩, ⟨fun i hi => ?_⟩⟩
       by_cases hi2 : i = k
       ·subst hi2; rw [HYY.out]; exact HBF.out
       ·exact HA.out i (by omega)
     | false =>
      rw [hbf] at hgb
      have HBF := Aside0.mk hbf
      have HGB := Aside0.mk hgb
      clear hbf hgb
      go_wp2
      go_region_held3 (fun w' => w'.cell? ⟨bg, 0, none⟩ = some (.int .i64 x.f0) ∧ w'.cell? ⟨bg, 1, none⟩ = some (.slice A1 x.f1.length c1) ∧ w'.cell? (ad2.add (k * 2)) = some (.int .i64 y.f0) ∧ w'.cell? ⟨(ad2.add (k * 2)).block, (ad2.add (k * 2)).off + 1, none⟩ = some (.slice A2 y.f1.length c2)) (go_keep)
       (first | (go_at_call 84; refine (HGB.out _ (by (with_reducible repeat (first | exact Below.refl _ _ | apply below_alloc | apply pw_below_drewN | apply below_drew)))).mono ?_; rintro e w5 ⟨rfl, hb5⟩; have HB5 := Aside0.mk (show Below wr.heap.size wr w5 from Below.trans (by (with_reducible repeat (first | exact Below.refl _ _ | apply below_alloc | apply pw_below_drewN | apply below_drew))) hb5); have g0 : w5.cell? ⟨bg, 0, none⟩ = some (.int .i64 x.f0) := pw_cell_below HB5.out hq0; have g1 : w5.cell? ⟨bg, 1, none⟩ = some (.slice A1 x.f1.length c1) := pw_cell_below HB5.out hq1; have g2 : w5.cell? (ad2.add (k * 2)) = some (.int .i64 y.f0) := pw_cell_below HB5.out hc20; have g3 : w5.cell? ⟨(ad2.add (k * 2)).block, (ad2.add (k * 2)).off + 1, none⟩ = some (.slice A2 y.f1.length c2) := pw_cell_below HB5.out hc21; clear hb5))
      clear g0 g1 g2 g3 hc20 hc21
      have BWn := Aside0.mk (Below.trans BWr.out (HB5.out.mono BWr.out.size))
      have BWp := Aside0.mk (Below.trans BWo.out (HB5.out.mono BWo.out.size))
      clear BWr BWo HBG HO HC1 HM1 HRW HCO hlgb hq0 hq1 hqa hqd
      have HBG := Aside0.mk (blk_below HBG0.out BWp.out)
      have HO := Aside0.mk (Kd.R_below HO0.out BWp.out)
      have HC1 := Aside0.mk (Kd.C_below HCG.out BWp.out)
      have HM1' := Kd.M_below HMG.out BWp.out
      have HM1 := Aside0.mk (show k28.M w5 w.heap.size (fun k => k < w5.heap.size) x [.int .i64 x.f0, .slice A1 x.f1.length c1] from k28.M_mono (fun j hj => Nat.lt_of_lt_of_le hj (Nat.le_trans HOZ.out BWp.out.size)) HM1')
      obtain ⟨_, _, he3, hkco, hrw⟩ := R_rowsM HO.out
      have HLO' := HLO.out
      injection he3 with e4 e6 e5
      clear e6
      rw [← e4, HLO'] at hrw
      rw [← e5, HLO'] at hkco
      have HRW := Aside0.mk (show ReadsRow (k28.M w5 w.heap.size (fun k => k < w5.heap.size)) 2 w5 (some ad2) kk os from hrw)
      have HCO := Aside0.mk hkco
      have hlgb : bg < w5.heap.size := blk_lt HBG.out
      have hq0 : w5.cell? ⟨bg, 0, none⟩ = some (.int .i64 x.f0) := (blk_cell HBG.out 0).trans rfl
      have hq1 : w5.cell? ⟨bg, 1, none⟩ = some (.slice A1 x.f1.length c1) := (blk_cell HBG.out 1).trans rfl
      have hqa : ∀ o, (w5.alloc o).cell? ⟨bg, 0, none⟩ = some (.int .i64 x.f0) ∧ (w5.alloc o).cell? ⟨bg, 1, none⟩ = some (.slice A1 x.f1.length c1) := fun o => ⟨(blk_cell (blk_alloc HBG.out o) 0).trans rfl, (blk_cell (blk_alloc HBG.out o) 1).trans rfl⟩
      have hqd : ∀ d o, ((w5.drewN d).alloc o).cell? ⟨bg, 0, none⟩ = some (.int .i64 x.f0) ∧ ((w5.drewN d).alloc o).cell? ⟨bg, 1, none⟩ = some (.slice A1 x.f1.length c1) := fun d o => ⟨(blk_cell (blk_alloc (blk_drewN HBG.out d) o) 0).trans rfl, (blk_cell (blk_alloc (blk_drewN HBG.out d) o) 1).trans rfl⟩
      clear hrw hkco e4 e5 HLO' HM1'
      have hkco : kk ≤ co := HCO.out
      have hrt : ReadsRow (k28.M w5 w.heap.size (fun k => k < w5.heap.size)) 2 w5 (some ad2) k (os.take k) := (rows_take (HLO.out.symm ▸ HRW.out) (by have := HLO.out; omega))
      have HRT := Aside0.mk hrt
      obtain ⟨Ad, hAd⟩ : ∃ Ad, Ad = (if co = k then (some ad2) else (some ad2).map (·.add (k * 2))) := ⟨_, rfl⟩
      have hrd : ReadsRow (k28.M w5 w.heap.size (fun k => k < w5.heap.size)) 2 w5 Ad (kk - k) (os.drop k) := by
       have hl := HLO.out
       have h := rows_drop (m := k) (c := co) (hl.symm ▸ HRW.out) (by omega) (by omega)
       rw [hl] at h
       rw [hAd]
       exact h
      have HRD := Aside0.mk hrd
      obtain ⟨hct, hcf⟩ := cutG (some ad2) kk co k (by omega) hkco
      rw [← hAd] at hcf
      have HLE := Aside0.mk (Nat.le_trans HW1.out BWn.out.size)
      have hins := insP_at befG os x z28 k (by have := HLO.out; omega) HA.out (.inr (by rw [HYY.out]; exact HBF.out))
      have HINS := Aside0.mk hins
      clear hrt hrd hAd hins hkco
      go_wp2
      go_region_law (first | (refine Kd.R_append_rows_step k28 (Rr := k28.M w5 w.heap.size (fun k => k < w5.heap.size)) (w0 := w5) w.heap.size (by rfl) (.tmp 37) (.tmp 40) 53 28 (.agg #[.int .i64 0, .slice none 0 0]) 32 rfl Tryz.underlying53 infoG rfl (by decide) (by decide) (.slice (some ⟨w5.heap.size, 0, none⟩) 0 0) [] (os.take k) _ _ _ (fun _ => True) (fun j => j < w5.heap.size) rfl rfl ?aO ?aR ?aK ?aN (fun _ _ => trivial) ?aB ?aS ?aL ?_; (case aO => exact R_empty _ _ _ (by first | exact heap1_0 _ _ | exact heap2_0 _ _ _ | exact heap2_1 _ _ _) (Nat.le_trans HLE.out (by simp))); (case aR => exact HRT.out.imp_ (by (with_reducible repeat (first | exact Below.refl _ _ | apply below_alloc | apply pw_below_drewN | apply below_drew))) (fun _ _ h => h)); (case aK => exact fun _ _ h => k28.M_move (fun j hj => (show Below w5.heap.size w5 _ from (by (with_reducible repeat (first | exact Below.refl _ _ | apply below_alloc | apply pw_below_drewN | apply below_drew)))).block j hj) h); (case aN => exact fun j (hj : j < w5.heap.size) => ⟨trivial, fun e => by have h1 : j = w5.heap.size := Option.some.inj e; omega⟩); (case aB => exact Below.mono (show Below w5.heap.size w5 _ from (by (with_reducible repeat (first | exact Below.refl _ _ | apply below_alloc | apply pw_below_drewN | apply below_drew)))) HLE.out); (case aS => exact Nat.le_trans HLE.out (by simp; try omega)); (case aL => have h1 := HLO.out; first | (simp; done) | (simp; omega)); intro v7 w7 ho7 hb7 hg7 hat7; have HX7 := Aside0.mk (show w7.heap[w5.heap.size + 1]? = some (.cells #[.int .i64 x.f0, .slice A1 x.f1.length c1] 28 (0, 0)) from blk_grown (by first | exact heap2_1 _ _ _ | exact heap2_0 _ _ _) hg7 (by intro e; have h1 := Option.some.inj e; revert h1; simp)); have HB7 := Aside0.mk ((show Below w5.heap.size w5 _ from (by (with_reducible repeat (first | exact Below.refl _ _ | apply below_alloc | apply pw_below_drewN | apply below_drew)))).grown hg7 (by simp; try omega) (fun j e => by have h1 : w5.heap.size = j := Option.some.inj e; omega)); have HNE7 := Aside0.mk (own_grow (N := w5.heap.size) hat7 (fun j e => by have h1 : w5.heap.size = j := Option.some.inj e; omega) (by simp; try omega)); have HO7 := Aside0.mk ho7; have hq7 := blk_below HBG.out HB7.out; have hq0 : w7.cell? ⟨bg, 0, none⟩ = some (.int .i64 x.f0) := (blk_cell hq7 0).trans rfl; have hq1 : w7.cell? ⟨bg, 1, none⟩ = some (.slice A1 x.f1.length c1) := (blk_cell hq7 1).trans rfl; clear ho7 hb7 hg7 hat7 hq7) | (refine Kd.R_append_rows_step k28 (Rr := k28.M w5 w.heap.size (fun k => k < w5.heap.size)) (w0 := w5) w.heap.size (by rfl) (.tmp 37) (.tmp 40) 53 28 (.agg #[.int .i64 0, .slice none 0 0]) 32 rfl Tryz.underlying53 infoG rfl (by decide) (by decide) (.slice (some ⟨w5.heap.size + 1, 0, none⟩) 0 0) [] (os.take k) _ _ _ (fun _ => True) (fun j => j < w5.heap.size) rfl rfl ?aO ?aR ?aK ?aN (fun _ _ => trivial) ?aB ?aS ?aL ?_; (case aO => exact R_empty _ _ _ (by first | exact heap1_0 _ _ | exact heap2_0 _ _ _ | exact heap2_1 _ _ _) (Nat.le_trans HLE.out (by simp))); (case aR => exact HRT.out.imp_ (by (with_reducible repeat (first | exact Below.refl _ _ | apply below_alloc | apply pw_below_drewN | apply below_drew))) (fun _ _ h => h)); (case aK => exact fun _ _ h => k28.M_move (fun j hj => (show Below w5.heap.size w5 _ from (by (with_reducible repeat (first | exact Below.refl _ _ | apply below_alloc | apply pw_below_drewN | apply below_drew)))).block j hj) h); (case aN => exact fun j (hj : j < w5.heap.size) => ⟨trivial, fun e => by have h1 : j = w5.heap.size + 1 := Option.some.inj e; omega⟩); (case aB => exact Below.mono (show Below w5.heap.size w5 _ from (by (with_reducible repeat (first | exact Below.refl _ _ | apply below_alloc | apply pw_below_drewN | apply below_drew)))) HLE.out); (case aS => exact Nat.le_trans HLE.out (by simp; try omega)); (case aL => have h1 := HLO.out; first | (simp; done) | (simp; omega)); intro v7 w7 ho7 hb7 hg7 hat7; have HX7 := Aside0.mk (show w7.heap[w5.heap.size]? = some (.cells #[.int .i64 x.f0, .slice A1 x.f1.length c1] 28 (0, 0)) from blk_grown (by first | exact heap2_1 _ _ _ | exact heap2_0 _ _ _) hg7 (by intro e; have h1 := Option.some.inj e; revert h1; simp)); have HB7 := Aside0.mk ((show Below w5.heap.size w5 _ from (by (with_reducible repeat (first | exact Below.refl _ _ | apply below_alloc | apply pw_below_drewN | apply below_drew)))).grown hg7 (by simp; try omega) (fun j e => by have h1 : w5.heap.size + 1 = j := Option.some.inj e; omega)); have HNE7 := Aside0.mk (own_grow (N := w5.heap.size) hat7 (fun j e => by have h1 : w5.heap.size + 1 = j := Option.some.inj e; omega) (by simp; try omega)); have HO7 := Aside0.mk ho7; have hq7 := blk_below HBG.out HB7.out; have hq0 : w7.cell? ⟨bg, 0, none⟩ = some (.int .i64 x.f0) := (blk_cell hq7 0).trans rfl; have hq1 : w7.cell? ⟨bg, 1, none⟩ = some (.slice A1 x.f1.length c1) := (blk_cell hq7 1).trans rfl; clear ho7 hb7 hg7 hat7 hq7) | (refine Kd.R_append_rows_step k28 (Rr := k28.M w5 w.heap.size (fun k => k < w5.heap.size)) (w0 := w5) w.heap.size (by rfl) (.tmp 37) (.tmp 40) 53 28 (.agg #[.int .i64 0, .slice none 0 0]) 32 rfl Tryz.underlying53 infoG rfl (by decide) (by decide) (.slice (some ⟨w5.heap.size, 0, none⟩) 0 0) [] (os.take k) _ _ _ (fun _ => True) (fun j => j < w5.heap.size) rfl rfl ?aO ?aR ?aK ?aN (fun _ _ => trivial) ?aB ?aS ?aL ?_; (case aO => exact R_empty _ _ _ (by first | exact heap1_0 _ _ | exact heap2_0 _ _ _ | exact heap2_1 _ _ _) (Nat.le_trans HLE.out (by simp))); (case aR => exact HRT.out.imp_ (by (with_reducible repeat (first | exact Below.refl _ _ | apply below_alloc | apply pw_below_drewN | apply below_drew))) (fun _ _ h => h)); (case aK => exact fun _ _ h => k28.M_move (fun j hj => (show Below w5.heap.size w5 _ from (by (with_reducible repeat (first | exact Below.refl _ _ | apply below_alloc | apply pw_below_drewN | apply below_drew)))).block j hj) h); (case aN => exact fun j (hj : j < w5.heap.size) => ⟨trivial, fun e => by have h1 : j = w5.heap.size := Option.some.inj e; omega⟩); (case aB => exact Below.mono (show Below w5.heap.size w5 _ from (by (with_reducible repeat (first | exact Below.refl _ _ | apply below_alloc | apply pw_below_drewN | apply below_drew)))) HLE.out); (case aS => exact Nat.le_trans HLE.out (by simp; try omega)); (case aL => have h1 := HLO.out; first | (simp; done) | (simp; omega)); intro v7 w7 ho7 hb7 hg7 hat7; have HB7 := Aside0.mk ((show Below w5.heap.size w5 _ from (by (with_reducible repeat (first | exact Below.refl _ _ | apply below_alloc | apply pw_below_drewN | apply below_drew)))).grown hg7 (by simp; try omega) (fun j e => by have h1 : w5.heap.size = j := Option.some.inj e; omega)); have HNE7 := Aside0.mk (own_grow (N := w5.heap.size) hat7 (fun j e => by have h1 : w5.heap.size = j := Option.some.inj e; omega) (by simp; try omega)); have HO7 := Aside0.mk ho7; have hq7 := blk_below HBG.out HB7.out; have hq0 : w7.cell? ⟨bg, 0, none⟩ = some (.int .i64 x.f0) := (blk_cell hq7 0).trans rfl; have hq1 : w7.cell? ⟨bg, 1, none⟩ = some (.slice A1 x.f1.length c1) := (blk_cell hq7 1).trans rfl; clear ho7 hb7 hg7 hat7 hq7) | (refine Kd.R_append_rows_step k28 (Rr := k28.M w5 w.heap.size (fun k => k < w5.heap.size)) (w0 := w5) w.heap.size (by rfl) (.tmp 41) (.tmp 43) 53 28 (.agg #[.int .i64 0, .slice none 0 0]) 32 rfl Tryz.underlying53 infoG rfl (by decide) (by decide) v7 ([] ++ os.take k) [x] _ _ _ (fun _ => True) (fun j => j < w5.heap.size) rfl rfl HO7.out ?bR ?bK ?bN (fun _ _ => trivial) ?bB ?bS ?bL ?_; (case bR => exact box_row HX7.out HM1.out); (case bK => exact fun _ _ h => k28.M_move (fun j hj => HB7.out.block j hj) h); (case bN => exact fun j (hj : j < w5.heap.size) => ⟨trivial, fun e => by have := HNE7.out j e.symm; omega⟩); (case bB => exact HB7.out.mono HLE.out); (case bS => exact Nat.le_trans HLE.out HB7.out.size); (case bL => have h1 := HLO.out; first | (simp; done) | (simp; omega)); intro v8 w8 ho8 hb8 hg8 hat8; have hne8 := own_grow (N := w5.heap.size) hat8 HNE7.out HB7.out.size; have HB8 := Aside0.mk (HB7.out.grown hg8 HB7.out.size HNE7.out); have HO8 := Aside0.mk ho8; have HNE8 := Aside0.mk hne8; clear ho8 hb8 hg8 hat8 hne8) | (refine Kd.R_append_step k28 (w0 := w5) w.heap.size (by rfl) (.tmp 41) (.tmp 43) 53 28 (.agg #[.int .i64 0, .slice none 0 0]) 32 rfl Tryz.underlying53 infoG rfl (by decide) (by decide) v7 ([] ++ os.take k) x [.int .i64 x.f0, .slice A1 x.f1.length c1] (fun _ => True) (fun j => j < w5.heap.size) rfl rfl ?bP ?bN (fun _ _ => trivial) HO7.out ?bB ?bS ?bL ?_; (case bP => exact k28.M_move (fun j hj => HB7.out.block j hj) HM1.out); (case bN => exact fun j (hj : j < w5.heap.size) => ⟨trivial, fun e => by have := HNE7.out j e.symm; omega⟩); (case bB => exact HB7.out.mono HLE.out); (case bS => exact Nat.le_trans HLE.out HB7.out.size); (case bL => have h1 := HLO.out; first | (simp; done) | (simp; omega)); intro v8 w8 ho8 hb8 hg8 hat8; have hne8 := own_grow (N := w5.heap.size) hat8 HNE7.out HB7.out.size; have HB8 := Aside0.mk (HB7.out.grown hg8 HB7.out.size HNE7.out); have HO8 := Aside0.mk ho8; have HNE8 := Aside0.mk hne8; clear ho8 hb8 hg8 hat8 hne8))
      all_goals
       go_wp2_with ((with_reducible refine gate_builtin (b := .append) (xs := #[.tmp 45, .tmp 48]) rfl ?_); at_builtin; go_must (refine Kd.R_append_rows k28 (Rr := k28.M w5 w.heap.size (fun k => k < w5.heap.size)) (w0 := w5) w.heap.size rfl (.tmp 45) (.tmp 48) 53 28 (.agg #[.int .i64 0, .slice none 0 0]) 32 rfl Tryz.underlying53 infoG rfl (by decide) (by decide) v8 ([] ++ os.take k ++ [x]) (os.drop k) _ _ _ (fun _ => True) (fun j => j < w5.heap.size) rfl rfl HO8.out ?cR ?cK ?cN (fun _ _ => trivial) ?cB ?cS ?cL ?_; (case cR => exact HRD.out.imp_ HB8.out (fun _ _ h => h)); (case cK => exact fun _ _ h => k28.M_move (fun j hj => HB8.out.block j hj) h); (case cN => exact fun j (hj : j < w5.heap.size) => ⟨trivial, fun e => by have := HNE8.out j e.symm; omega⟩); (case cB => exact HB8.out.mono HLE.out); (case cS => exact Nat.le_trans HLE.out HB8.out.size); (case cL => have h1 := HLO.out; first | (simp; done) | (simp; omega)); intro v9 w9 ho9 hb9 hg9 hat9; have hne9 := own_grow (N := w5.heap.size) hat9 HNE8.out HB8.out.size; have HB9 := Aside0.mk (HB8.out.grown hg9 HB8.out.size HNE8.out); have HO9 := Aside0.mk ho9; have HNE9 := Aside0.mk hne9; clear ho9 hb9 hg9 hat9 hne9))
       have ho9 := HO9.out
       rw [List.nil_append, HINS.out, ← HST.out] at ho9
       obtain ⟨A9, c9, rfl⟩ := Kd.R_slice ho9
       have hl9 : (srtP befG (xs.take (kk + 1))).length = kk + 1 := by rw [HL.out, List.length_take]; have := HN.out; omega
       rw [hl9] at ho9 ⊢
       have HO10 := Aside0.mk ho9
       clear ho9
       go_roundg (N - (kk + 1))
       case measure => omega
       case rel =>
        exact ⟨kk + 1, by omega, by omega, by go_num, A9, c9, rfl, ⟨Below.trans BWn.out (HB9.out.mono BWn.out.size)⟩, HO10⟩
    ·have hkz : ¬ (k : Int) < (kk : Int) := by omega
     have hkd : decide ((k : Int) < (kk : Int)) = false := decide_eq_false hkz
     go_wp2
     go_quiet (fail)
     have hb5 : Below wr.heap.size wr (wr.drewN nq) := pw_below_drewN (Below.refl _ _) _
     generalize wr.drewN nq = w5 at hb5 ⊢
     have HB5 := Aside0.mk hb5
     clear hb5
     have BWn := Aside0.mk (Below.trans BWr.out (HB5.out.mono BWr.out.size))
     have BWp := Aside0.mk (Below.trans BWo.out (HB5.out.mono BWo.out.size))
     clear BWr BWo HBG HO HC1 HM1 HRW HCO hlgb hq0 hq1 hqa hqd
     have HBG := Aside0.mk (blk_below HBG0.out BWp.out)
     have HO := Aside0.mk (Kd.R_below HO0.out BWp.out)
     have HC1 := Aside0.mk (Kd.C_below HCG.out BWp.out)
     have HM1' := Kd.M_below HMG.out BWp.out
     have HM1 := Aside0.mk (show k28.M w5 w.heap.size (fun k => k < w5.heap.size) x [.int .i64 x.f0, .slice A1 x.f1.length c1] from k28.M_mono (fun j hj => Nat.lt_of_lt_of_le hj (Nat.le_trans HOZ.out BWp.out.size)) HM1')
     obtain ⟨_, _, he3, hkco, hrw⟩ := R_rowsM HO.out
     have HLO' := HLO.out
     injection he3 with e4 e6 e5
     clear e6
     rw [← e4, HLO'] at hrw
     rw [← e5, HLO'] at hkco
     have HRW := Aside0.mk (show ReadsRow (k28.M w5 w.heap.size (fun k => k < w5.heap.size)) 2 w5 Ao kk os from hrw)
     have HCO := Aside0.mk hkco
     have hlgb : bg < w5.heap.size := blk_lt HBG.out
     have hq0 : w5.cell? ⟨bg, 0, none⟩ = some (.int .i64 x.f0) := (blk_cell HBG.out 0).trans rfl
     have hq1 : w5.cell? ⟨bg, 1, none⟩ = some (.slice A1 x.f1.length c1) := (blk_cell HBG.out 1).trans rfl
     have hqa : ∀ o, (w5.alloc o).cell? ⟨bg, 0, none⟩ = some (.int .i64 x.f0) ∧ (w5.alloc o).cell? ⟨bg, 1, none⟩ = some (.slice A1 x.f1.length c1) := fun o => ⟨(blk_cell (blk_alloc HBG.out o) 0).trans rfl, (blk_cell (blk_alloc HBG.out o) 1).trans rfl⟩
     have hqd : ∀ d o, ((w5.drewN d).alloc o).cell? ⟨bg, 0, none⟩ = some (.int .i64 x.f0) ∧ ((w5.drewN d).alloc o).cell? ⟨bg, 1, none⟩ = some (.slice A1 x.f1.length c1) := fun d o => ⟨(blk_cell (blk_alloc (blk_drewN HBG.out d) o) 0).trans rfl, (blk_cell (blk_alloc (blk_drewN HBG.out d) o) 1).trans rfl⟩
     clear hrw hkco e4 e5 HLO' HM1'
     have hkco : kk ≤ co := HCO.out
     have hrt : ReadsRow (k28.M w5 w.heap.size (fun k => k < w5.heap.size)) 2 w5 Ao k (os.take k) := (rows_take (HLO.out.symm ▸ HRW.out) (by have := HLO.out; omega))
     have HRT := Aside0.mk hrt
     obtain ⟨Ad, hAd⟩ : ∃ Ad, Ad = (if co = k then Ao else Ao.map (·.add (k * 2))) := ⟨_, rfl⟩
     have hrd : ReadsRow (k28.M w5 w.heap.size (fun k => k < w5.heap.size)) 2 w5 Ad (kk - k) (os.drop k) := by
      have hl := HLO.out
      have h := rows_drop (m := k) (c := co) (hl.symm ▸ HRW.out) (by omega) (by omega)
      rw [hl] at h
      rw [hAd]
      exact h
     have HRD := Aside0.mk hrd
     obtain ⟨hct, hcf⟩ := cutG Ao kk co k (by omega) hkco
     rw [← hAd] at hcf
     have HLE := Aside0.mk (Nat.le_trans HW1.out BWn.out.size)
     have hins := insP_at befG os x z28 k (by have := HLO.out; omega) HA.out (.inl (by have := HLO.out; omega))
     have HINS := Aside0.mk hins
     clear hrt hrd hAd hins hkco
     go_wp2
     go_region_law (first | (refine Kd.R_append_rows_step k28 (Rr := k28.M w5 w.heap.size (fun k => k < w5.heap.size)) (w0 := w5) w.heap.size (by rfl) (.tmp 37) (.tmp 40) 53 28 (.agg #[.int .i64 0, .slice none 0 0]) 32 rfl Tryz.underlying53 infoG rfl (by decide) (by decide) (.slice (some ⟨w5.heap.size, 0, none⟩) 0 0) [] (os.take k) _ _ _ (fun _ => True) (fun j => j < w5.heap.size) rfl rfl ?aO ?aR ?aK ?aN (fun _ _ => trivial) ?aB ?aS ?aL ?_; (case aO => exact R_empty _ _ _ (by first | exact heap1_0 _ _ | exact heap2_0 _ _ _ | exact heap2_1 _ _ _) (Nat.le_trans HLE.out (by simp))); (case aR => exact HRT.out.imp_ (by (with_reducible repeat (first | exact Below.refl _ _ | apply below_alloc | apply pw_below_drewN | apply below_drew))) (fun _ _ h => h)); (case aK => exact fun _ _ h => k28.M_move (fun j hj => (show Below w5.heap.size w5 _ from (by (with_reducible repeat (first | exact Below.refl _ _ | apply below_alloc | apply pw_below_drewN | apply below_drew)))).block j hj) h); (case aN => exact fun j (hj : j < w5.heap.size) => ⟨trivial, fun e => by have h1 : j = w5.heap.size := Option.some.inj e; omega⟩); (case aB => exact Below.mono (show Below w5.heap.size w5 _ from (by (with_reducible repeat (first | exact Below.refl _ _ | apply below_alloc | apply pw_below_drewN | apply below_drew)))) HLE.out); (case aS => exact Nat.le_trans HLE.out (by simp; try omega)); (case aL => have h1 := HLO.out; first | (simp; done) | (simp; omega)); intro v7 w7 ho7 hb7 hg7 hat7; have HX7 := Aside0.mk (show w7.heap[w5.heap.size + 1]? = some (.cells #[.int .i64 x.f0, .slice A1 x.f1.length c1] 28 (0, 0)) from blk_grown (by first | exact heap2_1 _ _ _ | exact heap2_0 _ _ _) hg7 (by intro e; have h1 := Option.some.inj e; revert h1; simp)); have HB7 := Aside0.mk ((show Below w5.heap.size w5 _ from (by (with_reducible repeat (first | exact Below.refl _ _ | apply below_alloc | apply pw_below_drewN | apply below_drew)))).grown hg7 (by simp; try omega) (fun j e => by have h1 : w5.heap.size = j := Option.some.inj e; omega)); have HNE7 := Aside0.mk (own_grow (N := w5.heap.size) hat7 (fun j e => by have h1 : w5.heap.size = j := Option.some.inj e; omega) (by simp; try omega)); have HO7 := Aside0.mk ho7; have hq7 := blk_below HBG.out HB7.out; have hq0 : w7.cell? ⟨bg, 0, none⟩ = some (.int .i64 x.f0) := (blk_cell hq7 0).trans rfl; have hq1 : w7.cell? ⟨bg, 1, none⟩ = some (.slice A1 x.f1.length c1) := (blk_cell hq7 1).trans rfl; clear ho7 hb7 hg7 hat7 hq7) | (refine Kd.R_append_rows_step k28 (Rr := k28.M w5 w.heap.size (fun k => k < w5.heap.size)) (w0 := w5) w.heap.size (by rfl) (.tmp 37) (.tmp 40) 53 28 (.agg #[.int .i64 0, .slice none 0 0]) 32 rfl Tryz.underlying53 infoG rfl (by decide) (by decide) (.slice (some ⟨w5.heap.size + 1, 0, none⟩) 0 0) [] (os.take k) _ _ _ (fun _ => True) (fun j => j < w5.heap.size) rfl rfl ?aO ?aR ?aK ?aN (fun _ _ => trivial) ?aB ?aS ?aL ?_; (case aO => exact R_empty _ _ _ (by first | exact heap1_0 _ _ | exact heap2_0 _ _ _ | exact heap2_1 _ _ _) (Nat.le_trans HLE.out (by simp))); (case aR => exact HRT.out.imp_ (by (with_reducible repeat (first | exact Below.refl _ _ | apply below_alloc | apply pw_below_drewN | apply below_drew))) (fun _ _ h => h)); (case aK => exact fun _ _ h => k28.M_move (fun j hj => (show Below w5.heap.size w5 _ from (by (with_reducible repeat (first | exact Below.refl _ _ | apply below_alloc | apply pw_below_drewN | apply below_drew)))).block j hj) h); (case aN => exact fun j (hj : j < w5.heap.size) => ⟨trivial, fun e => by have h1 : j = w5.heap.size + 1 := Option.some.inj e; omega⟩); (case aB => exact Below.mono (show Below w5.heap.size w5 _ from (by (with_reducible repeat (first | exact Below.refl _ _ | apply below_alloc | apply pw_below_drewN | apply below_drew)))) HLE.out); (case aS => exact Nat.le_trans HLE.out (by simp; try omega)); (case aL => have h1 := HLO.out; first | (simp; done) | (simp; omega)); intro v7 w7 ho7 hb7 hg7 hat7; have HX7 := Aside0.mk (show w7.heap[w5.heap.size]? = some (.cells #[.int .i64 x.f0, .slice A1 x.f1.length c1] 28 (0, 0)) from blk_grown (by first | exact heap2_1 _ _ _ | exact heap2_0 _ _ _) hg7 (by intro e; have h1 := Option.some.inj e; revert h1; simp)); have HB7 := Aside0.mk ((show Below w5.heap.size w5 _ from (by (with_reducible repeat (first | exact Below.refl _ _ | apply below_alloc | apply pw_below_drewN | apply below_drew)))).grown hg7 (by simp; try omega) (fun j e => by have h1 : w5.heap.size + 1 = j := Option.some.inj e; omega)); have HNE7 := Aside0.mk (own_grow (N := w5.heap.size) hat7 (fun j e => by have h1 : w5.heap.size + 1 = j := Option.some.inj e; omega) (by simp; try omega)); have HO7 := Aside0.mk ho7; have hq7 := blk_below HBG.out HB7.out; have hq0 : w7.cell? ⟨bg, 0, none⟩ = some (.int .i64 x.f0) := (blk_cell hq7 0).trans rfl; have hq1 : w7.cell? ⟨bg, 1, none⟩ = some (.slice A1 x.f1.length c1) := (blk_cell hq7 1).trans rfl; clear ho7 hb7 hg7 hat7 hq7) | (refine Kd.R_append_rows_step k28 (Rr := k28.M w5 w.heap.size (fun k => k < w5.heap.size)) (w0 := w5) w.heap.size (by rfl) (.tmp 37) (.tmp 40) 53 28 (.agg #[.int .i64 0, .slice none 0 0]) 32 rfl Tryz.underlying53 infoG rfl (by decide) (by decide) (.slice (some ⟨w5.heap.size, 0, none⟩) 0 0) [] (os.take k) _ _ _ (fun _ => True) (fun j => j < w5.heap.size) rfl rfl ?aO ?aR ?aK ?aN (fun _ _ => trivial) ?aB ?aS ?aL ?_; (case aO => exact R_empty _ _ _ (by first | exact heap1_0 _ _ | exact heap2_0 _ _ _ | exact heap2_1 _ _ _) (Nat.le_trans HLE.out (by simp))); (case aR => exact HRT.out.imp_ (by (with_reducible repeat (first | exact Below.refl _ _ | apply below_alloc | apply pw_below_drewN | apply below_drew))) (fun _ _ h => h)); (case aK => exact fun _ _ h => k28.M_move (fun j hj => (show Below w5.heap.size w5 _ from (by (with_reducible repeat (first | exact Below.refl _ _ | apply below_alloc | apply pw_below_drewN | apply below_drew)))).block j hj) h); (case aN => exact fun j (hj : j < w5.heap.size) => ⟨trivial, fun e => by have h1 : j = w5.heap.size := Option.some.inj e; omega⟩); (case aB => exact Below.mono (show Below w5.heap.size w5 _ from (by (with_reducible repeat (first | exact Below.refl _ _ | apply below_alloc | apply pw_below_drewN | apply below_drew)))) HLE.out); (case aS => exact Nat.le_trans HLE.out (by simp; try omega)); (case aL => have h1 := HLO.out; first | (simp; done) | (simp; omega)); intro v7 w7 ho7 hb7 hg7 hat7; have HB7 := Aside0.mk ((show Below w5.heap.size w5 _ from (by (with_reducible repeat (first | exact Below.refl _ _ | apply below_alloc | apply pw_below_drewN | apply below_drew)))).grown hg7 (by simp; try omega) (fun j e => by have h1 : w5.heap.size = j := Option.some.inj e; omega)); have HNE7 := Aside0.mk (own_grow (N := w5.heap.size) hat7 (fun j e => by have h1 : w5.heap.size = j := Option.some.inj e; omega) (by simp; try omega)); have HO7 := Aside0.mk ho7; have hq7 := blk_below HBG.out HB7.out; have hq0 : w7.cell? ⟨bg, 0, none⟩ = some (.int .i64 x.f0) := (blk_cell hq7 0).trans rfl; have hq1 : w7.cell? ⟨bg, 1, none⟩ = some (.slice A1 x.f1.length c1) := (blk_cell hq7 1).trans rfl; clear ho7 hb7 hg7 hat7 hq7) | (refine Kd.R_append_rows_step k28 (Rr := k28.M w5 w.heap.size (fun k => k < w5.heap.size)) (w0 := w5) w.heap.size (by rfl) (.tmp 41) (.tmp 43) 53 28 (.agg #[.int .i64 0, .slice none 0 0]) 32 rfl Tryz.underlying53 infoG rfl (by decide) (by decide) v7 ([] ++ os.take k) [x] _ _ _ (fun _ => True) (fun j => j < w5.heap.size) rfl rfl HO7.out ?bR ?bK ?bN (fun _ _ => trivial) ?bB ?bS ?bL ?_; (case bR => exact box_row HX7.out HM1.out); (case bK => exact fun _ _ h => k28.M_move (fun j hj => HB7.out.block j hj) h); (case bN => exact fun j (hj : j < w5.heap.size) => ⟨trivial, fun e => by have := HNE7.out j e.symm; omega⟩); (case bB => exact HB7.out.mono HLE.out); (case bS => exact Nat.le_trans HLE.out HB7.out.size); (case bL => have h1 := HLO.out; first | (simp; done) | (simp; omega)); intro v8 w8 ho8 hb8 hg8 hat8; have hne8 := own_grow (N := w5.heap.size) hat8 HNE7.out HB7.out.size; have HB8 := Aside0.mk (HB7.out.grown hg8 HB7.out.size HNE7.out); have HO8 := Aside0.mk ho8; have HNE8 := Aside0.mk hne8; clear ho8 hb8 hg8 hat8 hne8) | (refine Kd.R_append_step k28 (w0 := w5) w.heap.size (by rfl) (.tmp 41) (.tmp 43) 53 28 (.agg #[.int .i64 0, .slice none 0 0]) 32 rfl Tryz.underlying53 infoG rfl (by decide) (by decide) v7 ([] ++ os.take k) x [.int .i64 x.f0, .slice A1 x.f1.length c1] (fun _ => True) (fun j => j < w5.heap.size) rfl rfl ?bP ?bN (fun _ _ => trivial) HO7.out ?bB ?bS ?bL ?_; (case bP => exact k28.M_move (fun j hj => HB7.out.block j hj) HM1.out); (case bN => exact fun j (hj : j < w5.heap.size) => ⟨trivial, fun e => by have := HNE7.out j e.symm; omega⟩); (case bB => exact HB7.out.mono HLE.out); (case bS => exact Nat.le_trans HLE.out HB7.out.size); (case bL => have h1 := HLO.out; first | (simp; done) | (simp; omega)); intro v8 w8 ho8 hb8 hg8 hat8; have hne8 := own_grow (N := w5.heap.size) hat8 HNE7.out HB7.out.size; have HB8 := Aside0.mk (HB7.out.grown hg8 HB7.out.size HNE7.out); have HO8 := Aside0.mk ho8; have HNE8 := Aside0.mk hne8; clear ho8 hb8 hg8 hat8 hne8))
     all_goals
      go_wp2_with ((with_reducible refine gate_builtin (b := .append) (xs := #[.tmp 45, .tmp 48]) rfl ?_); at_builtin; go_must (refine Kd.R_append_rows k28 (Rr := k28.M w5 w.heap.size (fun k => k < w5.heap.size)) (w0 := w5) w.heap.size rfl (.tmp 45) (.tmp 48) 53 28 (.agg #[.int .i64 0, .slice none 0 0]) 32 rfl Tryz.underlying53 infoG rfl (by decide) (by decide) v8 ([] ++ os.take k ++ [x]) (os.drop k) _ _ _ (fun _ => True) (fun j => j < w5.heap.size) rfl rfl HO8.out ?cR ?cK ?cN (fun _ _ => trivial) ?cB ?cS ?cL ?_; (case cR => exact HRD.out.imp_ HB8.out (fun _ _ h => h)); (case cK => exact fun _ _ h => k28.M_move (fun j hj => HB8.out.block j hj) h); (case cN => exact fun j (hj : j < w5.heap.size) => ⟨trivial, fun e => by have := HNE8.out j e.symm; omega⟩); (case cB => exact HB8.out.mono HLE.out); (case cS => exact Nat.le_trans HLE.out HB8.out.size); (case cL => have h1 := HLO.out; first | (simp; done) | (simp; omega)); intro v9 w9 ho9 hb9 hg9 hat9; have hne9 := own_grow (N := w5.heap.size) hat9 HNE8.out HB8.out.size; have HB9 := Aside0.mk (HB8.out.grown hg9 HB8.out.size HNE8.out); have HO9 := Aside0.mk ho9; have HNE9 := Aside0.mk hne9; clear ho9 hb9 hg9 hat9 hne9))
      have ho9 := HO9.out
      rw [List.nil_append, HINS.out, ← HST.out] at ho9
      obtain ⟨A9, c9, rfl⟩ := Kd.R_slice ho9
      have hl9 : (srtP befG (xs.take (kk + 1))).length = kk + 1 := by rw [HL.out, List.length_take]; have := HN.out; omega
      rw [hl9] at ho9 ⊢
      have HO10 := Aside0.mk ho9
      clear ho9
      go_roundg (N - (kk + 1))
      case measure => omega
      case rel =>
       exact ⟨kk + 1, by omega, by omega, by go_num, A9, c9, rfl, ⟨Below.trans BWn.out (HB9.out.mono BWn.out.size)⟩, HO10⟩
  ·have hltz : ¬ (kk : Int) < (N : Int) := by omega
   have : kk = N := by omega
   subst this
   have ho := HO.out
   rw [HN.out, List.take_length] at ho
   have HO' := Aside0.mk ho
   clear ho
   go_wp2
   go_ret
   exact ⟨_, rfl, (by have := HO'.out; rw [← HN.out] at this; exact this), Below.trans HB1.out (BW.out.mono HW1.out)⟩
end Go.Proofs.YtnncjnjfdhbddaaGreat.Z
namespace Go.Proofs.YtnncjnjfdhbddaaGreat.Z
open Go.RowKit Go.Proofs.YtnncjnjfdhbddaaGreatW.PrintWords Go.Proofs.YtnncjnjfdhbddaaGreatW.PrintLast Go.Proofs.YtnncjnjfdhbddaaGreatW.PrintMore
attribute [local go_sem] max2_int min2_int max_two min_two max_three min_three max_four min_four
set_option linter.unusedVariables false
set_option linter.unusedSimpArgs false
section
variable {P : Program} {α : Type}
theorem R_tail (d : Kd α) {e base g n c : Nat} {ok : Nat → Prop} {W : World} {xs : List α} (h : d.R e W base ok (.slice (some ⟨g, 0, none⟩) n c) xs) (off : Nat) (news : List Value) (ho : n * d.sz ≤ off) (hl : off + news.length ≤ c * d.sz) :
  d.R e (W.setCells g off news) base ok (.slice (some ⟨g, 0, none⟩) n c) xs ∧ W.grownBy (W.setCells g off news) (some g) := by
 obtain ⟨hn, hnc, _⟩ := Kd.R_reads' h
 obtain ⟨hok, inner, hown, hr⟩ := h
 rcases hown.2 with ⟨hv, _⟩ | ⟨g', cap', cur, hv, hb, hh, hnc', hcm, hcs, htake⟩
 ·cases hv
 injection hv with ha _ hc
 injection ha with ha
 injection ha with hg
 subst hg; subst hc
 obtain ⟨cur', h3, h4, h5⟩ := setCells_row news off W cur hh (by omega)
 obtain ⟨s1, s2, s3, s4⟩ := setCells_same g news off W
 have hfar : ∀ k', k' ≠ g → (W.setCells g off news).heap[k']? = W.heap[k']? := fun k' hk' => setCells_far news _ k' hk'
 refine ⟨⟨hok, inner, ⟨hown.1, .inr ⟨g, c, cur', by rw [← hn], hb, h3, hnc', hcm, by rw [h4, hcs], ?_⟩⟩, ?_⟩, ⟨s1, s2, s3, by rw [s4]; exact Nat.le_refl _, fun k' _ hk' => hfar k' (fun he => hk' (by rw [he]))⟩⟩
 ·have e1 : xs.length * d.sz ≤ off := hn ▸ ho
  have e2 : xs.length * d.sz ≤ cur.size := by rw [hcs]; exact Nat.mul_le_mul_right _ hnc'
  rw [h5, List.append_assoc, List.take_append_of_le_length (by rw [List.length_take, Array.length_toList]; exact Nat.le_min.2 ⟨e1, e2⟩), List.take_take, Nat.min_eq_left e1]
  exact htake
 ·exact hr.imp_ (fun p q hp => d.M_move (fun k' hk' => hfar k' (fun he => hk'.2 (by simp [Value.ownBlock, he]))) hp)
theorem zeroCells_len (z : Array Value) (n : Nat) : (Builtin.zeroCells z n).toList.length = n * z.size := by simp [Builtin.zeroCells]
theorem run_clear_any (w : World) (t e ty : TypeId) (z : Value) (ht : P.underlying t = some (.slice e)) (hv : ∀ w, (zeroValue e).run P w = .ok z w) (h1 : ∀ u ∈ z.cells, u.oneCell' = true) (hz : 0 < z.cells.size) (b o n c : Nat) (hn : 0 < n)
  (hc : ∀ j, j < n * z.cells.size → (w.cell? ⟨b, o + j, none⟩).isSome = true) (hf : ∀ j, j < n * z.cells.size → w.frozen? ⟨b, o + j, none⟩ = false) :
  (Builtin.clear_ #[t] ty #[.slice (some ⟨b, o, none⟩) n c]).run P w = .ok (.tuple #[]) (w.setCells b o (Builtin.zeroCells z.cells n).toList) := by
 have hst := run_storeCells_cells (P := P) b o (Builtin.zeroCells z.cells n).toList 0 w (by rw [zeroCells_len]; simpa using hc) (by rw [zeroCells_len]; simpa using hf) (by
  intro v hv'
  simp only [Builtin.zeroCells, Array.toList_map, List.mem_map] at hv'
  obtain ⟨i, _, rfl⟩ := hv'
  have hi : i % z.cells.size < z.cells.size := Nat.mod_lt _ hz
  rw [getElem!_pos z.cells _ hi]
  exact h1 _ (Array.getElem_mem hi))
 simp only [Nat.add_zero] at hst
 obtain ⟨m, rfl⟩ : ∃ m, n = m + 1 := ⟨n - 1, by omega⟩
 simp [Builtin.clear_, run_underlying ht, hv, hst]
theorem run_zero {e : TypeId} {z : Value} (hi : (P.info? e).map (·.zero) = some (some z)) (w : World) : (zeroValue e).run P w = .ok z w := by
 obtain ⟨i, hi, hz⟩ := Option.map_eq_some_iff.1 hi
 simp [zeroValue, typeInfo, hi, hz]
theorem R_clear (d : Kd α) {e base g n m c : Nat} {ok : Nat → Prop} {W : World} {xs : List α} (t ty : TypeId) (z : Value) (ht : P.underlying t = some (.slice e)) (hi : (P.info? e).map (·.zero) = some (some z)) (h1 : ∀ u ∈ z.cells, u.oneCell' = true) (hz : z.cells.size = d.sz) (hs : 0 < d.sz)
  (h : d.R e W base ok (.slice (some ⟨g, 0, none⟩) n c) xs) (hm : 0 < m) (hnm : n + m ≤ c) (c2 : Nat) :
  ∃ w1, (Builtin.clear_ #[t] ty #[.slice (some ⟨g, n * d.sz, none⟩) m c2]).run P W = .ok (.tuple #[]) w1 ∧ d.R e w1 base ok (.slice (some ⟨g, 0, none⟩) n c) xs ∧ W.grownBy w1 (some g) := by
 have hb : ∃ cur, W.heap[g]? = some (.cells cur e (0, 0)) ∧ cur.size = c * d.sz := by
  obtain ⟨_, inner, hown, _⟩ := h
  rcases hown.2 with ⟨hv, _⟩ | ⟨g', cap', cur, hv, _, hh, _, _, hcs, _⟩
  ·cases hv
  ·injection hv with ha _ hc
   injection ha with ha
   injection ha with hg
   subst hg; subst hc
   exact ⟨cur, hh, hcs⟩
 obtain ⟨cur, hh, hcs⟩ := hb
 have hle : n * d.sz + m * d.sz ≤ c * d.sz := by rw [← Nat.add_mul]; exact Nat.mul_le_mul_right _ hnm
 have hrun := run_clear_any W t e ty z ht (run_zero hi) h1 (by omega) g (n * d.sz) m c2 hm
  (fun j hj => by rw [hz] at hj; rw [cell_of_row W g _ cur e (0, 0) hh, Array.getElem?_eq_getElem (by omega)]; rfl)
  (fun j _ => blk_frozen hh _)
 obtain ⟨h3, h4⟩ := R_tail d h (n * d.sz) (Builtin.zeroCells z.cells m).toList (Nat.le_refl _) (by rw [zeroCells_len, hz]; exact hle)
 exact ⟨_, hrun, h3, h4⟩
end
section
variable {P : Program} {ops : Array Oper} {rest : List Oper} {o : Oper} {a : Act} {Q : Exit → Act → World → Prop} {α : Type}
theorem R_clear_op (d : Kd α) {W : World} (base : Nat) (hgd : o.guard = none) (x : Operand) (t e : TypeId) (z : Value)
  (ho : o.op = .call { callee := .builtin .clear, args := #[x], argTypes := #[t] })
  (ht : P.underlying t = some (.slice e)) (hi : (P.info? e).map (·.zero) = some (some z)) (h1 : ∀ u ∈ z.cells, u.oneCell' = true) (hz : z.cells.size = d.sz) (hs : 0 < d.sz)
  {g n m c c2 off : Nat} {xs : List α} {ok : Nat → Prop} (hx : a.eval x = .slice (some ⟨g, off, none⟩) m c2) (hoff : off = n * d.sz)
  (HO : d.R e W base ok (.slice (some ⟨g, 0, none⟩) n c) xs) (hm : 0 < m) (hnm : n + m ≤ c)
  (h : ∀ w1, d.R e w1 base ok (.slice (some ⟨g, 0, none⟩) n c) xs → W.grownBy w1 (some g) → wpList P ops Q rest (a.put o.dst (.tuple #[])) w1) : wpList P ops Q (o :: rest) a W := by
 subst hoff
 obtain ⟨w1, hr, h2, h3⟩ := R_clear (P := P) d t o.type z ht hi h1 hz hs HO hm hnm c2
 refine wpList_plain hgd fun K hK => ?_
 unfold Oper.wp execOp
 simp only [ho, resolve, invoke, builtin, Sem.run_bind, Sem.run_pure, Result.andThen_ok, List.map_toArray, List.map_cons, List.map_nil, hx, hr]
 exact hK _ _ (h w1 h2 h3)
end
end Go.Proofs.YtnncjnjfdhbddaaGreat.Z
namespace Go.Proofs.YtnncjnjfdhbddaaGreat.Z
open Go.RowKit Go.Proofs.YtnncjnjfdhbddaaGreatW.PrintWords Go.Proofs.YtnncjnjfdhbddaaGreatW.PrintLast Go.Proofs.YtnncjnjfdhbddaaGreatW.PrintMore
attribute [local go_sem] max2_int min2_int max_two min_two max_three min_three max_four min_four
set_option linter.unusedVariables false
set_option linter.unusedSimpArgs false
section
variable {α : Type}
theorem R_block (d : Kd α) {e base g n c : Nat} {ok : Nat → Prop} {W : World} {xs : List α} (h : d.R e W base ok (.slice (some ⟨g, 0, none⟩) n c) xs) :
  ∃ inner cur, W.heap[g]? = some (.cells cur e (0, 0)) ∧ cur.size = c * d.sz ∧ cur.toList.take (n * d.sz) = inner ∧ Reps (d.M W base fun k => ok k ∧ some k ≠ (Value.slice (some ⟨g, 0, none⟩) n c).ownBlock) d.sz xs inner ∧ n = xs.length ∧ n ≤ c ∧ c ≤ maxLen ∧ base ≤ g := by
 obtain ⟨hn, hnc, _⟩ := Kd.R_reads' h
 obtain ⟨hok, inner, hown, hr⟩ := h
 rcases hown.2 with ⟨hv, _⟩ | ⟨g', cap', cur, hv, hb, hh, hnc', hcm, hcs, htake⟩
 ·cases hv
 injection hv with ha _ hc
 injection ha with ha
 injection ha with hg
 subst hg; subst hc
 exact ⟨inner, cur, hh, hcs, by rw [hn]; exact htake, hr, hn, hnc, hcm, hb⟩
theorem R_move_el (d : Kd α) {e base g n c : Nat} {ok : Nat → Prop} {W : World} {xs : List α} (h : d.R e W base ok (.slice (some ⟨g, 0, none⟩) n c) xs) (i j : Nat) (hi : i < n) (hj : j < n) (seg : List Value) (hs : seg.length = d.sz) (hs0 : 0 < d.sz)
  (hc : ∀ q u, seg[q]? = some u → W.cell? ⟨g, j * d.sz + q, none⟩ = some u) (y : α) (hy : xs[j]? = some y) :
  d.R e (W.setCells g (i * d.sz) seg) base ok (.slice (some ⟨g, 0, none⟩) n c) (xs.set i y) ∧ W.grownBy (W.setCells g (i * d.sz) seg) (some g) := by
 have hok := h.1
 obtain ⟨inner, cur, hh, hcs, htake, hr, hn, hnc, hcm, hb⟩ := R_block d h
 have h1 : i * d.sz + d.sz ≤ n * d.sz := by rw [← Nat.succ_mul]; exact Nat.mul_le_mul_right _ hi
 have h2 : j * d.sz + d.sz ≤ n * d.sz := by rw [← Nat.succ_mul]; exact Nat.mul_le_mul_right _ hj
 have h3 : n * d.sz ≤ c * d.sz := Nat.mul_le_mul_right _ hnc
 obtain ⟨cur', g1, g2, g3⟩ := setCells_row seg (i * d.sz) W cur hh (by omega)
 obtain ⟨s1, s2, s3, s4⟩ := setCells_same g seg (i * d.sz) W
 have hfar : ∀ k', k' ≠ g → (W.setCells g (i * d.sz) seg).heap[k']? = W.heap[k']? := fun k' hk' => setCells_far seg _ k' hk'
 have hil : inner.length = n * d.sz := by rw [hr.1, hn]
 have hseg : seg = (inner.drop (j * d.sz)).take d.sz := by
  apply List.ext_getElem?
  intro q
  rcases Nat.lt_or_ge q d.sz with hq | hq
  ·have e1 := hc q seg[q] (List.getElem?_eq_getElem (by omega))
   rw [cell_of_row W g _ cur e (0, 0) hh, ← Array.getElem?_toList] at e1
   rw [List.getElem?_take, if_pos hq, List.getElem?_drop, ← htake, List.getElem?_take, if_pos (by omega), e1, List.getElem?_eq_getElem (by omega)]
  ·rw [List.getElem?_eq_none (by omega), List.getElem?_eq_none (by rw [List.length_take]; omega)]
 have hx : d.M W base (fun k => ok k ∧ some k ≠ (Value.slice (some ⟨g, 0, none⟩) n c).ownBlock) y seg := hseg ▸ hr.2 j y hy
 refine ⟨⟨hok, inner.take (i * d.sz) ++ seg ++ inner.drop (i * d.sz + seg.length), ⟨?_, .inr ⟨g, c, cur', by rw [List.length_set, ← hn], hb, g1, by rw [List.length_set, ← hn]; exact hnc, hcm, by rw [g2, hcs], ?_⟩⟩, ?_⟩, ⟨s1, s2, s3, by rw [s4]; exact Nat.le_refl _, fun k' _ hk' => hfar k' (fun he => hk' (by rw [he]))⟩⟩
 ·rw [List.length_set, ← hn, List.length_append, List.length_append, List.length_take, List.length_drop, hs]
  omega
 ·rw [List.length_set, ← hn, g3, ← htake]
  have e1 : (cur.toList.take (n * d.sz)).take (i * d.sz) = cur.toList.take (i * d.sz) := by rw [List.take_take, Nat.min_eq_left (by omega)]
  rw [e1, List.take_append, List.length_append, List.length_take, Array.length_toList, Nat.min_eq_left (by omega), List.take_of_length_le (by rw [List.length_append, List.length_take, Array.length_toList]; omega), hs, List.drop_take]
 ·have := Kd.reps_set hr (show i < xs.length by omega) hx hs
  exact this.imp_ (fun p q hp => d.M_move (fun k' hk' => hfar k' (fun he => hk'.2 (by simp [Value.ownBlock, he]))) hp)
end
theorem gm_at {W : World} {base g n c : Nat} {xs : List S28} (h : Kd.R k28 28 W base (fun _ => True) (.slice (some ⟨g, 0, none⟩) n c) xs) (j : Nat) (hj : j < n) :
  ∃ A1 c1, W.cell? ⟨g, j * 2, none⟩ = some (.int .i64 (xs.getD j z28).f0) ∧ W.cell? ⟨g, j * 2 + 1, none⟩ = some (.slice A1 (xs.getD j z28).f1.length c1) ∧ (xs.getD j z28).f1.length ≤ c1 ∧ Kd.C (Kd.slice 3 (Kd.int .i64)) W A1 (xs.getD j z28).f1.length (xs.getD j z28).f1 := by
 obtain ⟨hn, _, hC⟩ := Kd.R_reads' h
 obtain ⟨ad, A1, c1, e, h0, h1, h2, h3⟩ := at_T28 hC (j : Int) (by omega) (by omega)
 cases e
 have e1 : (⟨g, 0, none⟩ : Addr).add (j * 2) = ⟨g, j * 2, none⟩ := by
  rcases Nat.eq_zero_or_pos (j * 2) with h | h
  ·rw [h]; rfl
  ·simp [Addr.add]; omega
 simp only [rd_T28, Int.toNat_natCast, e1] at h0 h1 h2 h3
 exact ⟨A1, c1, h0, h1, h2, h3⟩
theorem gm_set {W : World} {base g n c : Nat} {xs : List S28} (h : Kd.R k28 28 W base (fun _ => True) (.slice (some ⟨g, 0, none⟩) n c) xs) (i j : Nat) (hi : i < n) (hj : j < n) (a b : Value)
  (ha : W.cell? ⟨g, j * 2, none⟩ = some a) (hb : W.cell? ⟨g, j * 2 + 1, none⟩ = some b) :
  Kd.R k28 28 ((W.setCell ⟨g, i * 2, none⟩ a).setCell ⟨g, i * 2 + 1, none⟩ b) base (fun _ => True) (.slice (some ⟨g, 0, none⟩) n c) (xs.set i (xs.getD j z28)) ∧ W.grownBy ((W.setCell ⟨g, i * 2, none⟩ a).setCell ⟨g, i * 2 + 1, none⟩ b) (some g) :=
 R_move_el k28 h i j hi hj [a, b] rfl (by decide) (fun q u hq => by
  match q, hq with
  | 0, hq => cases hq; exact ha
  | 1, hq => cases hq; exact hb) _ (by have := (Kd.R_reads' h).1; simp [List.getD_eq_getElem?_getD, show j < xs.length by omega])
end Go.Proofs.YtnncjnjfdhbddaaGreat.Z
namespace Go.Proofs.YtnncjnjfdhbddaaGreat.Z
open Go.RowKit Go.Proofs.YtnncjnjfdhbddaaGreatW.PrintWords Go.Proofs.YtnncjnjfdhbddaaGreatW.PrintLast Go.Proofs.YtnncjnjfdhbddaaGreatW.PrintMore
attribute [local go_sem] max2_int min2_int max_two min_two max_three min_three max_four min_four
set_option linter.unusedVariables false
set_option linter.unusedSimpArgs false
set_option maxHeartbeats 4000000 in
theorem indexFunc_gm (p : S28 → Bool) (g : Nat) (cb : Array Value) (A : Option Addr) (c : Nat) (l : List S28) (w : World)
  (eg : ∀ args w, (callFunc g args).run Tryz.prog w = .ok (.enter g args) w)
  (hr : Kd.C k28 w A l.length l)
  (hp : ∀ W x A0 c0, x ∈ l → Below w.heap.size w W → x.f1.length ≤ c0 → Kd.C (Kd.slice 3 (Kd.int .i64)) W A0 x.f1.length x.f1 → Calls Tryz.prog g (#[.agg #[.int .i64 x.f0, .slice A0 x.f1.length c0]] ++ cb) W fun e w' => e = .returned (.bool (p x)) ∧ Below W.heap.size W w') :
  Calls Tryz.prog 129 #[.slice A l.length c, .func (.func g) #[] cb] w fun e w' => e = .returned (.int .i64 (idxI p l)) ∧ Below w.heap.size w w' := by
 have HR := Aside0.mk hr
 have HP := Aside0.mk hp
 have hm := hr.2.1
 have hu := Tryz.underlying28
 clear hr hp
 go_enter Tryz.func129, Tryz.ntmps129
 go_wp2
 go_loopg [5, 8] l.length (fun gg _ s8 wr => ∃ kk : Nat, kk ≤ l.length ∧ l.length - kk ≤ gg ∧ s8 = .int .i64 kk ∧ Aside0 (Below w.heap.size w wr) ∧ Aside0 (∀ j, j < kk → p (l.getD j z28) = false))
 case atStart => exact ⟨0, Nat.zero_le _, by omega, rfl, ⟨Below.refl _ w⟩, ⟨fun j hj => absurd hj (Nat.not_lt_zero _)⟩⟩
 case round =>
  obtain ⟨kk, hkk, hg, rfl, BW, HA⟩ := hrel
  by_cases hlt : kk < l.length
  ·have hltz : (kk : Int) < (l.length : Int) := by omega
   have h0z : (0 : Int) ≤ (kk : Int) := by omega
   obtain ⟨ad, A0, c0, e, hc0, hc1, hl0, hC0⟩ := at_T28 (Kd.C_below HR.out BW.out) (kk : Int) (by omega) hltz
   subst e
   rw [Int.toNat_natCast] at hc0 hc1
   have hy0 : rd_T28 l (kk : Int) = l.getD kk z28 := by simp [rd_T28]
   have hmem : l.getD kk z28 ∈ l := by simp [List.getD_eq_getElem?_getD, hlt]
   rw [hy0] at hc0 hc1 hl0 hC0
   have hcall := HP.out wr _ A0 c0 hmem BW.out hl0 hC0
   clear hy0 hmem HR HP
   generalize hy : l.getD kk z28 = y at *
   have B := Aside0.mk hy
   clear hy
   cases hq : p y with
   | true =>
    rw [hq] at hcall
    have Q := Aside0.mk hq
    clear hq
    go_wp2_with (go_at_fn g; refine hcall.mono ?_; rintro e w' ⟨rfl, hb'⟩)
    go_ret
    refine ⟨?_, Below.trans BW.out (hb'.mono BW.out.size)⟩
    rw [idxI_hit p l z28 kk hlt (by rw [B.out]; exact Q.out) HA.out]
    rfl
   | false =>
    rw [hq] at hcall
    have Q := Aside0.mk hq
    clear hq
    go_wp2_with (go_at_fn g; refine hcall.mono ?_; rintro e w' ⟨rfl, hb'⟩)
    go_roundg (l.length - (kk + 1))
    case measure => omega
    case rel =>
     refine ⟨kk + 1, by omega, by omega, by go_num, ⟨Below.trans BW.out (hb'.mono BW.out.size)⟩, ⟨fun j hj => ?_⟩⟩
     by_cases e : j = kk
     ·subst e
      rw [B.out]; exact Q.out
     ·exact HA.out j (by omega)
  ·have hltz : ¬ (kk : Int) < (l.length : Int) := by omega
   have : kk = l.length := by omega
   subst this
   go_wp2
   go_ret
   refine ⟨?_, BW.out⟩
   rw [idxI_miss p l z28 HA.out]
   rfl
end Go.Proofs.YtnncjnjfdhbddaaGreat.Z
namespace Go.Proofs.YtnncjnjfdhbddaaGreat.Z
open Go.RowKit Go.Proofs.YtnncjnjfdhbddaaGreatW.PrintWords Go.Proofs.YtnncjnjfdhbddaaGreatW.PrintLast Go.Proofs.YtnncjnjfdhbddaaGreatW.PrintMore
attribute [local go_sem] max2_int min2_int max_two min_two max_three min_three max_four min_four
set_option linter.unusedVariables false
set_option linter.unusedSimpArgs false
def keepL {α : Type} (p : α → Bool) (xs : List α) (j : Nat) : List α := (xs.take j).filter fun x => !(p x)
theorem keepL_len {α : Type} (p : α → Bool) (xs : List α) (j : Nat) : (keepL p xs j).length ≤ j := Nat.le_trans (List.length_filter_le _ _) (by rw [List.length_take]; exact Nat.min_le_left _ _)
theorem keepL_yes {α : Type} (p : α → Bool) (xs : List α) (z : α) (j : Nat) (hj : j < xs.length) (h : p (xs.getD j z) = false) : keepL p xs (j + 1) = keepL p xs j ++ [xs.getD j z] := by
 have e : xs.take (j + 1) = xs.take j ++ [xs.getD j z] := by rw [List.take_succ_eq_append_getElem hj]; simp [List.getD_eq_getElem?_getD, hj]
 rw [keepL, e, List.filter_append, List.filter_cons, h]
 simp [keepL]
theorem keepL_no {α : Type} (p : α → Bool) (xs : List α) (z : α) (j : Nat) (hj : j < xs.length) (h : p (xs.getD j z) = true) : keepL p xs (j + 1) = keepL p xs j := by
 have e : xs.take (j + 1) = xs.take j ++ [xs.getD j z] := by rw [List.take_succ_eq_append_getElem hj]; simp [List.getD_eq_getElem?_getD, hj]
 rw [keepL, e, List.filter_append, List.filter_cons, h]
 simp [keepL]
def midL {α : Type} (p : α → Bool) (xs : List α) (j : Nat) : List α := keepL p xs j ++ xs.drop (keepL p xs j).length
theorem midL_at {α : Type} (p : α → Bool) (xs : List α) (z : α) (j : Nat) : (midL p xs j).getD j z = xs.getD j z := by
 have h := keepL_len p xs j
 simp only [midL, List.getD_eq_getElem?_getD]
 rw [List.getElem?_append_right h, List.getElem?_drop]
 congr 2
 omega
theorem midL_yes {α : Type} (p : α → Bool) (xs : List α) (z : α) (j : Nat) (hj : j < xs.length) (h : p (xs.getD j z) = false) : midL p xs (j + 1) = (midL p xs j).set (keepL p xs j).length (xs.getD j z) := by
 have hl := keepL_len p xs j
 obtain ⟨d, hd⟩ : ∃ d, xs.drop (keepL p xs j).length = d :: xs.drop ((keepL p xs j).length + 1) := ⟨xs[(keepL p xs j).length], by rw [List.drop_eq_getElem_cons]⟩
 rw [midL, keepL_yes p xs z j hj h, midL, List.set_append_right _ _ (Nat.le_refl _), Nat.sub_self, hd]
 simp
theorem midL_no {α : Type} (p : α → Bool) (xs : List α) (z : α) (j : Nat) (hj : j < xs.length) (h : p (xs.getD j z) = true) : midL p xs (j + 1) = midL p xs j := by rw [midL, keepL_no p xs z j hj h, midL]
theorem keepL_first {α : Type} (p : α → Bool) (xs : List α) (z : α) (i : Nat) (hi : i ≤ xs.length) (h : ∀ m, m < i → p (xs.getD m z) = false) : keepL p xs i = xs.take i := by
 rw [keepL, List.filter_eq_self]
 intro x hx
 obtain ⟨m, hm, rfl⟩ := List.mem_iff_getElem.1 hx
 rw [List.length_take] at hm
 have := h m (by omega)
 simpa [List.getD_eq_getElem?_getD, show m < xs.length by omega] using this
theorem grown_bel {w W W' : World} {g : Nat} (h : w.grownBy W (some g)) (hb : Below W.heap.size W W') : w.grownBy W' (some g) :=
 ⟨hb.os.trans h.os, hb.tape.trans h.tape, hb.output.trans h.output, Nat.le_trans h.size hb.size, fun k hk hne => (hb.block k (Nat.lt_of_lt_of_le hk h.size)).trans (h.block k hk hne)⟩
theorem grown_two {w W W' : World} {g : Nat} (h : w.grownBy W (some g)) (h' : W.grownBy W' (some g)) : w.grownBy W' (some g) :=
 ⟨h'.os.trans h.os, h'.tape.trans h.tape, h'.output.trans h.output, Nat.le_trans h.size h'.size, fun k hk hne => (h'.block k (Nat.lt_of_lt_of_le hk h.size) hne).trans (h.block k hk hne)⟩
theorem infoGm3 : (Tryz.prog.info? 28).map (·.zero) = some (some (.agg #[(.int .i64 0), (.slice none 0 0)])) := by kernel_rfl
theorem one28 : ∀ u ∈ (Value.agg #[.int .i64 0, .slice none 0 0]).cells, u.oneCell' = true := by
 intro u hu
 have : u ∈ [Value.int .i64 0, .slice none 0 0] := by simpa [Value.cells] using hu
 simp only [List.mem_cons, List.not_mem_nil, or_false] at this
 rcases this with h | h <;> subst h <;> rfl
theorem clear_gm {ops : Array Oper} {rest : List Oper} {o : Oper} {a : Act} {Q : Exit → Act → World → Prop} {W : World} {base g n m c c2 : Nat} {xs : List S28} {x : Operand} (hgd : o.guard = none) (ho : o.op = .call { callee := .builtin .clear, args := #[x], argTypes := #[53] })
  (hx : a.eval x = .slice (some ⟨g, n * 2, none⟩) m c2) (HO : Kd.R k28 28 W base (fun _ => True) (.slice (some ⟨g, 0, none⟩) n c) xs) (hm : 0 < m) (hnm : n + m ≤ c)
  (h : ∀ w1, Kd.R k28 28 w1 base (fun _ => True) (.slice (some ⟨g, 0, none⟩) n c) xs → W.grownBy w1 (some g) → wpList Tryz.prog ops Q rest (a.put o.dst (.tuple #[])) w1) : wpList Tryz.prog ops Q (o :: rest) a W :=
 R_clear_op k28 base hgd x 53 28 (.agg #[.int .i64 0, .slice none 0 0]) ho Tryz.underlying53 infoGm3 one28 rfl (by decide) hx rfl HO hm hnm h
set_option maxRecDepth 100000 in
set_option maxHeartbeats 8000000 in
theorem deleteFunc_gm (p : S28 → Bool) (f : Nat) (cb : Array Value) (g n c base : Nat) (xs : List S28) (hn : n ≤ 100000) (w : World)
  (eg : ∀ args w, (callFunc f args).run Tryz.prog w = .ok (.enter f args) w)
  (hR : Kd.R k28 28 w base (fun _ => True) (.slice (some ⟨g, 0, none⟩) n c) xs)
  (hp : ∀ W x A0 c0, x ∈ xs → w.grownBy W (some g) → x.f1.length ≤ c0 → Kd.C (Kd.slice 3 (Kd.int .i64)) W A0 x.f1.length x.f1 → Calls Tryz.prog f (#[.agg #[.int .i64 x.f0, .slice A0 x.f1.length c0]] ++ cb) W fun e w' => e = .returned (.bool (p x)) ∧ Below W.heap.size W w') :
  Calls Tryz.prog 86 #[.slice (some ⟨g, 0, none⟩) n c, .func (.func f) #[] cb] w fun e w' => ∃ v, e = .returned v ∧ Kd.R k28 28 w' base (fun _ => True) v (xs.filter fun x => !(p x)) ∧ w.grownBy w' (some g) := by
 have hu28 := Tryz.underlying28
 obtain ⟨hnx, hnc, hC⟩ := Kd.R_reads' hR
 have hI := indexFunc_gm p f cb (some ⟨g, 0, none⟩) c xs w eg hC (fun W x A0 c0 hx hB hl hc => hp W x A0 c0 hx ⟨hB.os, hB.tape, hB.output, hB.size, fun k hk _ => hB.block k hk⟩ hl hc)
 have HR := Aside0.mk hR
 have HP := Aside0.mk hp
 have HI := Aside0.mk hI
 have HNX := Aside0.mk hnx
 cases hany : xs.any p with
 | false =>
  have e1 : idxI p xs = -1 := by rw [idxI, hany]; rfl
  have e2 : (xs.filter fun x => !(p x)) = xs := by
   rw [List.filter_eq_self]
   intro x hx
   have := List.any_eq_false.1 hany x hx
   simpa using this
  rw [e1, ← hnx] at HI
  rw [e2]
  clear hI hp hR hC hany e1 e2 hnx
  go_enter Tryz.func86, Tryz.ntmps86
  go_wp2_with (go_at_call 129; refine HI.out.mono ?_; rintro e w1 ⟨rfl, hb⟩; have HB := Aside0.mk hb; clear hb)
  go_ret
  exact ⟨_, rfl, Kd.R_below HR.out HB.out, ⟨HB.out.os, HB.out.tape, HB.out.output, HB.out.size, fun k hk _ => HB.out.block k hk⟩⟩
 | true =>
  obtain ⟨i0, hi0⟩ : ∃ i0, i0 = xs.findIdx p := ⟨_, rfl⟩
  have hi1 : i0 < n := by rw [hi0, hnx]; exact List.findIdx_lt_length_of_exists (by simpa using hany)
  have e1 : idxI p xs = (i0 : Int) := by rw [idxI, if_pos hany, hi0]
  have hk0 := keepL_first p xs z28 i0 (by omega) (fun m hm => by
   have h1 := List.not_of_lt_findIdx (hi0 ▸ hm)
   simpa [List.getD_eq_getElem?_getD, show m < xs.length by omega] using h1)
  have hpi : p (xs.getD i0 z28) = true := by
   have h1 := List.findIdx_getElem (p := p) (w := by rw [← hi0]; omega) (xs := xs)
   simp only [← hi0] at h1
   simpa [List.getD_eq_getElem?_getD, show i0 < xs.length by omega] using h1
  have hm0 : midL p xs (i0 + 1) = xs := by rw [midL_no p xs z28 i0 (by omega) hpi, midL, hk0, List.length_take, Nat.min_eq_left (by omega)]; exact List.take_append_drop _ _
  have hl0 : (keepL p xs (i0 + 1)).length = i0 := by rw [keepL_no p xs z28 i0 (by omega) hpi, hk0, List.length_take, Nat.min_eq_left (by omega)]
  have HM0 := Aside0.mk (And.intro hm0 hl0)
  rw [e1, ← hnx] at HI
  have q1 : ((i0 : Int) == -1) = false := by first | (simp; done) | (simp; omega)
  clear hI hp hR hC hany e1 hi0 hk0 hpi hm0 hl0 hnx
  go_enter Tryz.func86, Tryz.ntmps86
  go_wp2_with (go_at_call 129; refine HI.out.mono ?_; rintro e w1 ⟨rfl, hb⟩; have HB := Aside0.mk hb; clear hb)
  clear q1
  go_loopg [5, 6, 7] n (fun gg s5 s6 _ wr => ∃ i j : Nat, i < j ∧ j ≤ n ∧ n - j ≤ gg ∧ s5 = .int .i64 i ∧ s6 = .int .i64 j ∧ Aside0 (i = (keepL p xs j).length) ∧ Aside0 (w.grownBy wr (some g)) ∧ Aside0 (Kd.R k28 28 wr base (fun _ => True) (.slice (some ⟨g, 0, none⟩) n c) (midL p xs j)))
  case atStart =>
   refine ⟨i0, i0 + 1, by omega, by omega, by omega, rfl, by first | rfl | go_num | simp, ⟨HM0.out.2.symm⟩, ⟨⟨HB.out.os, HB.out.tape, HB.out.output, HB.out.size, fun k hk _ => HB.out.block k hk⟩⟩, ⟨?_⟩⟩
   rw [HM0.out.1]
   exact Kd.R_below HR.out HB.out
  case round =>
   obtain ⟨i, j, hij, hj, hg, rfl, rfl, HI2, HG, HO⟩ := hrel
   by_cases hlt : j < n
   ·have hltz : (j : Int) < (n : Int) := by omega
    have h0z : (0 : Int) ≤ (j : Int) := by omega
    have hi3 : (i : Int) < (n : Int) := by omega
    have hi4 : (0 : Int) ≤ (i : Int) := by omega
    obtain ⟨A1, c1, hc0, hc1, hl1, hC1⟩ := gm_at HO.out j hlt
    rw [midL_at] at hc0 hc1 hl1 hC1
    have hmem : xs.getD j z28 ∈ xs := by have := HNX.out; simp [List.getD_eq_getElem?_getD, show j < xs.length by omega]
    have hyes := midL_yes p xs z28 j (by have := HNX.out; omega)
    have hno := midL_no p xs z28 j (by have := HNX.out; omega)
    have hky := keepL_yes p xs z28 j (by have := HNX.out; omega)
    have hkn := keepL_no p xs z28 j (by have := HNX.out; omega)
    have hmid := midL_at p xs z28 j
    have hcall := fun o => HP.out (wr.alloc o) _ A1 c1 hmem (grown_bel HG.out (below_alloc (Below.refl _ _) o)) hl1 (Kd.C_alloc hC1 o)
    have hgl : g < wr.heap.size := Kd.R_lt HO.out g (by simp [Value.ownBlock])
    have hki := keepL_len p xs j
    generalize xs.getD j z28 = y at *
    have HX := Aside0.mk (And.intro hyes hno)
    have HK := Aside0.mk (And.intro hky hkn)
    have HMID := Aside0.mk hmid
    have HGL := Aside0.mk hgl
    have HC01 := Aside0.mk (And.intro hc0 hc1)
    clear hyes hno hky hkn hmid hmem hC1 hgl hl1
    cases hq : p y with
    | true =>
     rw [hq] at hcall
     have HQ := Aside0.mk hq
     clear hq
     go_wp2_with (go_at_fn f; refine (hcall _).mono ?_; rintro e w2 ⟨rfl, hb⟩; have HBW := Aside0.mk (show Below wr.heap.size wr w2 from Below.trans ((Below.refl _ _).alloc (Nat.le_refl _) _) (hb.mono (by simp))); clear hb)
     go_roundg (n - (j + 1))
     case measure => omega
     case rel =>
      have e1 := HX.out.2 HQ.out
      have e2 := HK.out.2 HQ.out
      exact ⟨i, j + 1, by omega, by omega, by omega, rfl, by go_num, ⟨by rw [e2]; exact HI2.out⟩, ⟨grown_bel HG.out HBW.out⟩, ⟨by rw [e1]; exact Kd.R_below HO.out HBW.out⟩⟩
    | false =>
     rw [hq] at hcall
     have HQ := Aside0.mk hq
     clear hq
     go_wp2_with (go_at_fn f; refine (hcall _).mono ?_; rintro e w2 ⟨rfl, hb⟩; have hz := blk_below (heap1_0 wr _) hb; have hz0 : w2.cell? ⟨wr.heap.size, 0, none⟩ = some (.int .i64 y.f0) := (blk_cell hz 0).trans rfl; have hz1 : w2.cell? ⟨wr.heap.size, 1, none⟩ = some (.slice A1 y.f1.length c1) := (blk_cell hz 1).trans rfl; have hbw : Below wr.heap.size wr w2 := (Below.trans ((Below.refl _ _).alloc (Nat.le_refl _) _) (hb.mono (by simp))); have hO2 := Kd.R_below HO.out hbw; obtain ⟨Ai, ci, hi5, hi6, _, _⟩ := gm_at hO2 i (by omega); obtain ⟨_, cur, hh, hrest⟩ := R_block k28 hO2; clear hrest; have hfi0 := blk_frozen hh (i * 2); have hfi1 := blk_frozen hh (i * 2 + 1); have HBW := Aside0.mk hbw; have HO2 := Aside0.mk hO2; clear hb hz hbw hO2 hh)
     go_roundg (n - (j + 1))
     case measure => omega
     case rel =>
      have e1 := HX.out.1 HQ.out
      have e2 := HK.out.1 HQ.out
      obtain ⟨h1, h2⟩ := gm_set HO2.out i j (by omega) hlt (.int .i64 y.f0) (.slice A1 y.f1.length c1) ((HBW.out.cell (World.block_lt_of_cell? wr _ HC01.out.1)).trans HC01.out.1) ((HBW.out.cell (World.block_lt_of_cell? wr _ HC01.out.2)).trans HC01.out.2)
      rw [HMID.out, HI2.out, ← e1] at h1
      refine ⟨i + 1, j + 1, by omega, by omega, by omega, by go_num, by go_num, ⟨by rw [e2, HI2.out]; simp⟩, ⟨grown_two (grown_bel HG.out HBW.out) h2⟩, ⟨?_⟩⟩
      rw [← HI2.out] at h1
      exact h1
   ·have hltz : ¬ (j : Int) < (n : Int) := by omega
    have : j = n := by omega
    subst this
    have hfin : keepL p xs j = xs.filter fun x => !(p x) := by rw [keepL, HNX.out, List.take_length]
    have hR2 := Kd.R_take HO.out (m := i) (by rw [HI2.out, midL, List.length_append]; omega)
    have e3 : (midL p xs j).take i = xs.filter fun x => !(p x) := by rw [midL, HI2.out, List.take_left', hfin]; rfl
    rw [e3] at hR2
    have HR2 := Aside0.mk hR2
    have q2 : (i : Int) ≤ (j : Int) := by omega
    have q3 : (0 : Int) ≤ (i : Int) := by omega
    have q4 : i ≤ j := by omega
    have q5 : i ≤ c := by omega
    have q6 : ¬ c = i := by omega
    have q7 : i + (j - i) ≤ c := by omega
    have q8 : 0 < j - i := by omega
    clear hfin hR2 e3 HM0
    go_wp2_with ((with_reducible refine gate_builtin (b := .clear) (xs := #[.tmp 38]) rfl ?_); refine clear_gm (x := .tmp 38) (base := base) rfl rfl rfl HR2.out q8 q7 ?_; intro w2 hr2 hg2; have HR3 := Aside0.mk hr2; have HG3 := Aside0.mk hg2; clear hr2 hg2)
    go_ret
    exact ⟨_, rfl, HR3.out, grown_two HG.out HG3.out⟩
end Go.Proofs.YtnncjnjfdhbddaaGreat.Z
namespace Go.Proofs.YtnncjnjfdhbddaaGreat.Z
open Go.RowKit Go.Proofs.YtnncjnjfdhbddaaGreatW.PrintWords Go.Proofs.YtnncjnjfdhbddaaGreatW.PrintLast Go.Proofs.YtnncjnjfdhbddaaGreatW.PrintMore
attribute [local go_sem] max2_int min2_int max_two min_two max_three min_three max_four min_four
set_option linter.unusedVariables false
set_option linter.unusedSimpArgs false
theorem small16 : ∀ m, m < 16 → inSmall (setI m) = true := by decide +kernel
theorem allG_pos (n : Nat) (hn : n ≤ 4) (h1 : 1 ≤ n) : 0 < (allG n).length := by
 rw [allG, List.length_map, (sortC_perm cmpLL _).length_eq, List.length_map, rawG, List.length_map]
 have : n = 1 ∨ n = 2 ∨ n = 3 ∨ n = 4 := by omega
 rcases this with h | h | h | h <;> subst h <;> decide +kernel
theorem allG_ok (n : Nat) (hn : n ≤ 4) (h1 : 1 ≤ n) : ∀ x ∈ allG n, x.f0 = (n : Int) ∧ byOk (n : Int) x.f1 = true := by
 intro x hx
 obtain ⟨ws, hws, rfl⟩ := List.mem_map.1 hx
 refine ⟨rfl, ?_⟩
 have h2 := (sortC_perm cmpLL _).mem_iff.1 hws
 obtain ⟨g, hg, rfl⟩ := List.mem_map.1 h2
 obtain ⟨t, ht, rfl⟩ := List.mem_map.1 hg
 have h16 : 2 ^ n ≤ 16 := Nat.le_trans (Nat.pow_le_pow_right (by decide) hn) (by decide)
 have hperm : (leastSets n (bitsB n t)).Perm (partS (leastB n (bitsB n t)) (bitsB n t).length) := sortC_perm cmpL _
 have hl : (leastSets n (bitsB n t)).length ≤ 16 := by
  rw [hperm.length_eq, partS, List.length_map]
  exact Nat.le_trans (List.length_filter_le _ _) (by rw [List.length_range, bitsB_len]; exact h16)
 rw [byOk, Bool.and_eq_true]
 refine ⟨decide_eq_true ⟨by omega, by omega, Nat.le_trans hl (by decide)⟩, List.all_eq_true.2 fun st hst => ?_⟩
 have h3 := hperm.mem_iff.1 hst
 obtain ⟨m, hm, rfl⟩ := List.mem_map.1 h3
 have h4 : m < 16 := by
  have := List.mem_range.1 (List.mem_filter.1 hm).1
  rw [bitsB_len] at this
  omega
 exact small16 m h4
theorem allG_len (n : Nat) (hn : n ≤ 4) : (allG n).length ≤ 168 := by
 rw [allG, List.length_map, (sortC_perm cmpLL _).length_eq, List.length_map]
 exact Nat.le_trans (rawG_len n _) (tabs_len n hn)
def impl_solutions.f (a0 : Int) (l1 : List (S86)) : Option ((List (S28))) := if inI a0 1 4 = true ∧ l1.all (clueB a0) = true then some ((allG a0.toNat).filter fun g => !(offG a0.toNat l1 g)) else none
set_option maxRecDepth 100000 in
set_option maxHeartbeats 4000000 in
theorem impl_solutions.calls (a0 : Int) (A1 : Option Addr) (c1 : Nat) (l1 : List (S86)) (r : List (S28)) (w : World) (hr1 : Kd.C k86 w A1 l1.length l1) (hc1 : l1.length ≤ c1) (h : impl_solutions.f a0 l1 = some r) :
  Calls Tryz.prog 58 #[.int .i64 a0, .slice A1 l1.length c1] w fun e w' => ∃ v0_ : Value, e = .returned (v0_) ∧ Kd.R k28 28 w' w.heap.size (fun _ => True) v0_ r ∧ Below w.heap.size w w' := by
 unfold impl_solutions.f at h
 split at h
 ·rename_i hh
  obtain rfl := Option.some.inj h
  have hi := inI_of hh.1
  obtain ⟨n, rfl⟩ := Int.eq_ofNat_of_zero_le (show 0 ≤ a0 by omega)
  rw [Int.toNat_natCast]
  have hn : n ≤ 4 := by omega
  have hn1 : 1 ≤ n := by omega
  have hcl : ∀ c ∈ l1, clueB (n : Int) c = true := List.all_eq_true.1 hh.2
  have hok := allG_ok n hn hn1
  have hlen := allG_len n hn
  have hag := fun w => impl_allGames.calls (n : Int) (allG n) w (by rw [impl_allGames.f, if_pos (by omega), Int.toNat_natCast])
  have eg : ∀ args w, (callFunc 87 args).run Tryz.prog w = .ok (.enter 87 args) w := enters_of Tryz.func87 (by kernel_rfl) rfl
  have hdf := fun (g c base : Nat) (W : World) (hB : Below w.heap.size w W) (hg : w.heap.size < g) (b : Nat) (hb : W.heap[b]? = some (.cells #[.slice A1 l1.length c1] 39 (0, 0))) (hbg : b < g) (hR : Kd.R k28 28 W base (fun _ => True) (.slice (some ⟨g, 0, none⟩) (allG n).length c) (allG n)) =>
   deleteFunc_gm (offG n l1) 87 #[.pointer (some ⟨b, 0, none⟩)] g (allG n).length c base (allG n) (by omega) W eg hR
    (fun W' x A0 c0 hx hG hl hC => solutions_fn1 n hn l1 hcl x (hok x hx).1 (hok x hx).2 A0 c0 A1 c1 b W' hC hl
     (Kd.C_below hr1 ⟨hG.os.trans hB.os, hG.tape.trans hB.tape, hG.output.trans hB.output, Nat.le_trans hB.size hG.size, fun k hk => (hG.block k (Nat.lt_of_lt_of_le hk hB.size) (by simp; omega)).trans (hB.block k hk)⟩)
     ((hG.block b (blk_lt hb) (by simp; omega)).trans hb))
  have hpos := allG_pos n hn hn1
  have HDF := Aside0.mk hdf
  have HAG := Aside0.mk hag
  generalize allG n = G at *
  generalize l1.length = L at *
  clear hdf hag hcl hok eg hr1 h hh hi hlen
  go_enter Tryz.func58, Tryz.ntmps58
  go_wp2_with (first | (go_at_call 78; refine (HAG.out _).mono ?_; rintro e w1 ⟨v1, rfl, ho, hb⟩; obtain ⟨g, cap, e1, hg1, hg2, _⟩ := Kd.R_form ho hpos; subst e1; have HO1 := Aside0.mk ho; have HBW := Aside0.mk (show Below w.heap.size w w1 from Below.trans ((Below.refl _ _).alloc (Nat.le_refl _) _) (hb.mono (by simp))); have HBX := Aside0.mk (blk_below (heap1_0 w _) hb); have HG1 := Aside0.mk hg1; clear ho hb hg1 hg2) | (go_at_call 86; refine (HDF.out g cap w.heap.size _ HBW.out (by have := HG1.out; simp at this; omega) w.heap.size HBX.out (by have := HG1.out; simp at this; omega) (Kd.R_lower HO1.out (by simp))).mono ?_; rintro e w2 ⟨v2, rfl, ho, hg⟩; have HO2 := Aside0.mk ho; have HG2 := Aside0.mk hg; clear ho hg))
  go_ret
  exact ⟨_, rfl, HO2.out, HBW.out.grown HG2.out HBW.out.size (fun k hk => by cases hk; have := HG1.out; simp at this; omega)⟩
 ·cases h
end Go.Proofs.YtnncjnjfdhbddaaGreat.Z
namespace Go.Proofs.YtnncjnjfdhbddaaGreat.Z
open Go.RowKit Go.Proofs.YtnncjnjfdhbddaaGreatW.PrintWords Go.Proofs.YtnncjnjfdhbddaaGreatW.PrintLast Go.Proofs.YtnncjnjfdhbddaaGreatW.PrintMore
attribute [local go_sem] max2_int min2_int max_two min_two max_three min_three max_four min_four
set_option linter.unusedVariables false
set_option linter.unusedSimpArgs false
theorem infoCl : (Tryz.prog.info? 86).map (fun i => (i.zero, i.size, i.bytes)) = some (some (.agg #[(.int .i64 0), (.int .i64 0), (.int .i64 0)]), 3, 24) := by kernel_rfl
def impl_Clue.f (l0 : List (S86)) : Option ((List (S86))) := if l0.length ≤ 1000 then some l0 else none
set_option maxRecDepth 100000 in
set_option maxHeartbeats 2000000 in
theorem impl_Clue.calls (A0 : Option Addr) (c0 : Nat) (l0 : List (S86)) (r : List (S86)) (w : World) (hr0 : Kd.C k86 w A0 l0.length l0) (hc0 : l0.length ≤ c0) (h : impl_Clue.f l0 = some r) :
  Calls Tryz.prog 64 #[.slice A0 l0.length c0] w fun e w' => ∃ v0_ : Value, e = .returned (v0_) ∧ Kd.R k86 86 w' w.heap.size (fun _ => True) v0_ r ∧ Below w.heap.size w w' := by
 unfold impl_Clue.f at h
 split at h
 ·rename_i hl
  obtain rfl := Option.some.inj h
  have q39 : ∀ (w : World) (a : Option Addr) (n c n' c' : Nat), (binOp .eql 39 (.slice a n c) (.slice none n' c')).run Tryz.prog w = .ok (.bool a.isNone) w := fun w a n c n' c' => Lib.run_eql_slice_nil w _ _ a n c n' c' Tryz.underlying39
  have HR := Aside0.mk hr0
  clear hr0 h
  cases A0 with
  | none =>
   have hz : l0 = [] := by
    cases l0 with
    | nil => rfl
    | cons x t => obtain ⟨_, e, _⟩ := at_T86 HR.out 0 (by omega) (by simp only [List.length_cons]; omega); cases e
   subst hz
   go_enter Tryz.func64, Tryz.ntmps64
   go_wp2
   go_ret
   exact ⟨_, rfl, Kd.R_nil _ _ _ _ _, by first | exact Below.refl _ _ | exact pw_below_drewN (Below.refl _ _) _⟩
  | some ad =>
   go_enter Tryz.func64, Tryz.ntmps64
   go_wp2_with ((with_reducible refine gate_builtin (b := .append) (xs := #[.tmp 5, .tmp 6]) rfl ?_); at_builtin; refine Kd.R_append_rows k86 (w0 := w) w.heap.size rfl (.tmp 5) (.tmp 6) 39 86 (.agg #[.int .i64 0, .int .i64 0, .int .i64 0]) 24 rfl Tryz.underlying39 infoCl rfl (by decide) (by decide) _ [] l0 _ _ _ (fun _ => True) (fun _ => False) rfl rfl ?aO ?aR (fun _ _ h => h) (fun _ h => h.elim) (fun _ _ => trivial) ?aB ?aS ?aL ?_; (case aO => exact ⟨fun _ _ => trivial, [], ⟨rfl, .inr ⟨w.heap.size, 0, #[], rfl, Nat.le_refl _, heap1_0 _ _, Nat.le_refl _, by simp [maxLen], rfl, rfl⟩⟩, Reps.none _ _⟩); (case aR => exact Kd.C_alloc HR.out _); (case aB => exact (Below.refl _ _).alloc (Nat.le_refl _) _); (case aS => simp); (case aL => simp; omega); intro v1 w1 ho hb hg hat; have HO := Aside0.mk ho; have HB := Aside0.mk hb; clear ho hb hg hat)
   go_ret
   exact ⟨_, rfl, by simpa using HO.out, HB.out⟩
 ·cases h
end Go.Proofs.YtnncjnjfdhbddaaGreat.Z
namespace Go.Proofs.YtnncjnjfdhbddaaGreat.Z
open Go.RowKit Go.Proofs.YtnncjnjfdhbddaaGreatW.PrintWords Go.Proofs.YtnncjnjfdhbddaaGreatW.PrintLast Go.Proofs.YtnncjnjfdhbddaaGreatW.PrintMore
attribute [local go_sem] max2_int min2_int max_two min_two max_three min_three max_four min_four
set_option linter.unusedVariables false
set_option linter.unusedSimpArgs false
theorem infoCl2 : (Tryz.prog.info? 86).map (·.size) = some 3 := by kernel_rfl
theorem infoCl3 : (Tryz.prog.info? 86).map (·.zero) = some (some (.agg #[(.int .i64 0), (.int .i64 0), (.int .i64 0)])) := by kernel_rfl
theorem one86 : ∀ u ∈ (Value.agg #[.int .i64 0, .int .i64 0, .int .i64 0]).cells, u.oneCell' = true := by
 intro u hu
 have : u ∈ [Value.int .i64 0, .int .i64 0, .int .i64 0] := by simpa [Value.cells] using hu
 simp only [List.mem_cons, List.not_mem_nil, or_false] at this
 rcases this with h | h | h <;> subst h <;> rfl
theorem clear_cl {ops : Array Oper} {rest : List Oper} {o : Oper} {a : Act} {Q : Exit → Act → World → Prop} {W : World} {base g N c c2 : Nat} {xs : List S86} {x : Operand} (hgd : o.guard = none) (ho : o.op = .call { callee := .builtin .clear, args := #[x], argTypes := #[39] })
  (hx : a.eval x = .slice (some ⟨g, N * 3, none⟩) 1 c2) (HO : Kd.R k86 86 W base (fun _ => True) (.slice (some ⟨g, 0, none⟩) N c) xs) (hnm : N + 1 ≤ c)
  (h : ∀ w1, Kd.R k86 86 w1 base (fun _ => True) (.slice (some ⟨g, 0, none⟩) N c) xs → W.grownBy w1 (some g) → wpList Tryz.prog ops Q rest (a.put o.dst (.tuple #[])) w1) : wpList Tryz.prog ops Q (o :: rest) a W :=
 R_clear_op k86 base hgd x 39 86 (.agg #[.int .i64 0, .int .i64 0, .int .i64 0]) ho Tryz.underlying39 infoCl3 one86 rfl (by decide) hx rfl HO (by decide) hnm h
set_option maxRecDepth 100000 in
set_option maxHeartbeats 4000000 in
theorem delete_cl (g N c k base : Nat) (xs : List S86) (hk : k < N + 1) (hn : N + 1 ≤ 1000) (w : World) (hR : Kd.R k86 86 w base (fun _ => True) (.slice (some ⟨g, 0, none⟩) (N + 1) c) xs) :
  Calls Tryz.prog 91 #[.slice (some ⟨g, 0, none⟩) (N + 1) c, .int .i64 (k : Int), .int .i64 ((k : Int) + 1)] w fun e w' => e = .returned (.slice (some ⟨g, 0, none⟩) N c) ∧ Kd.R k86 86 w' base (fun _ => True) (.slice (some ⟨g, 0, none⟩) N c) (xs.eraseIdx k) ∧ Below base w w' := by
 have hu39 := Tryz.underlying39
 have hu86 := Tryz.underlying86
 have HR := Aside0.mk hR
 obtain ⟨hnx, hnc, _⟩ := Kd.R_reads' hR
 have hb0 : base ≤ w.heap.size := by
  have h1 := Kd.R_base hR g (by simp [Value.ownBlock])
  have h2 := Kd.R_lt hR g (by simp [Value.ownBlock])
  omega
 have HN := Aside0.mk hnx
 have hgb := Kd.R_base hR g (by simp [Value.ownBlock])
 clear hR hnx
 have q1 : (0 : Int) ≤ (k : Int) := by omega
 have q2 : (k : Int) < (N : Int) + 1 := by omega
 have q3 : (k : Int) ≤ (k : Int) + 1 := by omega
 have q4 : (k : Int) + 1 ≤ (N : Int) + 1 := by omega
 have q5 : (N : Int) + 1 ≤ (c : Int) := by omega
 have q7 : k ≤ c := by omega
 have q8 : k + 1 ≤ N + 1 := by omega
 have q9 : N ≤ c := by omega
 have q10 : k + 1 ≤ c := by omega
 have q11 : (0 : Int) ≤ (k : Int) + 1 := by omega
 have q13 : (N : Int) ≤ (N : Int) + 1 := by omega
 have q14 : ¬ c = N := by omega
 have q15 : (0 : Int) ≤ (N : Int) := by omega
 have q16 : (0 : Int) ≤ (N : Int) + 1 := by omega
 have q17 : N + 1 ≤ c := by omega
 have q6 : ((k : Int) == (k : Int) + 1) = false := by simp; omega
 go_enter Tryz.func91, Tryz.ntmps91
 go_wp2
 go_region_law (refine Kd.R_delete_step k86 (w0 := w) base (by rfl) (.tmp 22) (.tmp 25) 39 86 rfl Tryz.underlying39 infoCl2 (g := g) (n := N + 1) (c := c) (k := k) (xs := xs) (ok := fun _ => True) rfl rfl ?hA ?hM ?hO hk ?hB ?hb ?_; (case hA => (by_cases hck : c = k + 1 <;> simp [hck, Addr.add] <;> rfl)); (case hM => omega); (case hO => exact Kd.R_drewN HR.out _); (case hB => exact pw_below_drewN (Below.refl _ _) _); (case hb => simpa using hb0); intro w1 hr1 hb1 hg1; have HR1 := Aside0.mk hr1; have HB1 := Aside0.mk hb1; clear hr1 hb1 hg1)
 all_goals
  go_wp2_with ((with_reducible refine gate_builtin (b := .clear) (xs := #[.tmp 31]) rfl ?_); refine clear_cl (x := .tmp 31) (base := base) rfl rfl rfl HR1.out q17 ?_; intro w2 hr2 hg2; have HR2 := Aside0.mk hr2; have HG2 := Aside0.mk hg2; clear hr2 hg2)
 all_goals
  go_ret
  exact ⟨rfl, (by first | exact HR2.out | (have h2 := HR2.out; rw [show c = k + 1 by omega] at h2; exact h2)), HB1.out.grown HG2.out (Nat.le_trans hb0 HB1.out.size) (fun k hk => by cases hk; exact hgb)⟩
def impl_without.f (l0 : List (S86)) (a1 : Int) : Option ((List (S86))) := if l0.length ≤ 1000 ∧ 0 ≤ a1 ∧ a1 < (l0.length : Int) then some (l0.eraseIdx a1.toNat) else none
set_option maxHeartbeats 2000000 in
theorem impl_without.calls (A0 : Option Addr) (c0 : Nat) (l0 : List (S86)) (a1 : Int) (r : List (S86)) (w : World) (hr0 : Kd.C k86 w A0 l0.length l0) (hc0 : l0.length ≤ c0) (h : impl_without.f l0 a1 = some r) :
  Calls Tryz.prog 59 #[.slice A0 l0.length c0, .int .i64 a1] w fun e w' => ∃ v0_ : Value, e = .returned (v0_) ∧ Kd.R k86 86 w' w.heap.size (fun _ => True) v0_ r ∧ Below w.heap.size w w' := by
 unfold impl_without.f at h
 split at h
 ·rename_i hl
  obtain ⟨hl, h0, h1⟩ := hl
  obtain rfl := Option.some.inj h
  obtain ⟨k, rfl⟩ := Int.eq_ofNat_of_zero_le h0
  rw [Int.toNat_natCast]
  have hcl := fun w h1 => impl_Clue.calls A0 c0 l0 l0 w h1 hc0 (by rw [impl_Clue.f, if_pos hl])
  have HCL := Aside0.mk (hcl w hr0)
  obtain ⟨N, hN⟩ : ∃ N, N + 1 = l0.length := ⟨l0.length - 1, by omega⟩
  have HN := Aside0.mk hN
  have hk : k < N + 1 := by omega
  have hw : wrap64 ((k : Int) + 1) = (k : Int) + 1 := by rw [← i64_w]; exact wraps_i64 _ (by omega) (by omega)
  have hw2 : IntKind.i64.wrap ((k : Int) + 1) = (k : Int) + 1 := (i64_w _).trans hw
  have hN1 : N + 1 ≤ 1000 := by omega
  clear hr0 h hcl h1 hN
  go_enter Tryz.func59, Tryz.ntmps59
  go_wp2_with (first | (go_at_call 64; refine HCL.out.mono ?_; rintro e w1 ⟨v1, rfl, ho, hb⟩; obtain ⟨g, cap, e1, hg1, hg2, _⟩ := Kd.R_form ho (by have := HN.out; omega); rw [← HN.out] at e1; subst e1; have HO1 := Aside0.mk ho; have HB1 := Aside0.mk hb; clear ho hb hg1 hg2) | (go_at_call 91; refine (delete_cl g N cap k w.heap.size l0 hk hN1 _ HO1.out).mono ?_; rintro e w2 ⟨rfl, ho, hb⟩; have HO2 := Aside0.mk ho; have HB2 := Aside0.mk hb; clear ho hb))
  go_ret
  exact ⟨_, rfl, HO2.out, Below.trans HB1.out HB2.out⟩
 ·cases h
end Go.Proofs.YtnncjnjfdhbddaaGreat.Z
namespace Go.Proofs.YtnncjnjfdhbddaaGreat.Z
open Go.RowKit Go.Proofs.YtnncjnjfdhbddaaGreatW.PrintWords Go.Proofs.YtnncjnjfdhbddaaGreatW.PrintLast Go.Proofs.YtnncjnjfdhbddaaGreatW.PrintMore
attribute [local go_sem] max2_int min2_int max_two min_two max_three min_three max_four min_four
set_option linter.unusedVariables false
set_option linter.unusedSimpArgs false
def impl_Solutions.f (a0_0 : Int) (l0_1 : List (S86)) : Option ((List (S28)) × Bool) := (impl_IsPuzzle.f a0_0 l0_1).bind fun t319 => (if t319 = true then ((impl_solutions.f a0_0 l0_1).bind fun t320 => (some (t320, true))) else (some (([] : List (S28)), false)))
set_option maxHeartbeats 8000000 in
set_option maxRecDepth 100000 in
theorem impl_Solutions.calls (a0_0 : Int) (A0_1 : Option Addr) (c0_1 : Nat) (l0_1 : List (S86)) (r1 : List (S28)) (r2 : Bool) (w : World) (hr0_1 : Kd.C k86 w A0_1 l0_1.length l0_1) (hc0_1 : l0_1.length ≤ c0_1) (h : impl_Solutions.f a0_0 l0_1 = some (r1, r2)) :
  Calls Tryz.prog 32 #[.agg #[.int .i64 a0_0, .slice A0_1 l0_1.length c0_1]] w fun e w' => ∃ v0_ : Value, e = .returned (.tuple #[v0_, .bool r2]) ∧ Kd.R k28 28 w' w.heap.size (fun _ => True) v0_ r1 ∧ Below w.heap.size w w' := by
 have hu41 := Tryz.underlying41
 have HR0_1 := Aside0.mk hr0_1
 have HC0_1 := Aside0.mk hc0_1
 clear hr0_1 hc0_1
 have HB := Aside0.mk (Below.refl w.heap.size w)
 have H : ((impl_IsPuzzle.f a0_0 l0_1).bind fun t319 => (if t319 = true then ((impl_solutions.f a0_0 l0_1).bind fun t320 => (some (t320, true))) else (some (([] : List (S28)), false)))) = some (r1, r2) := h
 clear h
 replace H := Option.bind_eq_some_iff.mp H
 obtain ⟨t319, A20, H⟩ := H
 replace H : (if t319 = true then ((impl_solutions.f a0_0 l0_1).bind fun t320 => (some (t320, true))) else (some (([] : List (S28)), false))) = some (r1, r2) := H
 have A2 := Aside0.mk A20
 clear A20
 by_cases c3 : t319 = true
 ·subst c3
  have H1 : ((impl_solutions.f a0_0 l0_1).bind fun t320 => (some (t320, true))) = some (r1, r2) := by rw [if_pos rfl] at H; exact H
  clear H
  have H := H1
  clear H1
  replace H := Option.bind_eq_some_iff.mp H
  obtain ⟨t320, A40, H⟩ := H
  replace H : (some (t320, true)) = some (r1, r2) := H
  have A4 := Aside0.mk A40
  clear A40
  simp only [Option.some.injEq, Prod.mk.injEq] at H
  obtain ⟨rfl, rfl⟩ := H
  go_enter Tryz.func32, Tryz.ntmps32
  go_wp2_with (first | ((with_reducible refine gate_dst (N := 1) rfl ?_); refine box_event ?hg (N := 1) ?hd (cs := #[.int .i64 a0_0, .slice A0_1 l0_1.length c0_1]) (t := 41) ?hr ?_; (case hd => rfl); (case hg => rfl); (case hr => first | (go_simp; done) | (go_simp; rfl)); intro gb318 hg w5 hbox hb; have n0_ := Aside0.mk (below_step (by repeat (first | (with_reducible first | exact HB.out | apply below_alloc | apply pw_below_drewN | apply below_drew1) | exact HB.out)) hb); have n1_ := Aside0.mk (hbox); have n2_ := Aside0.mk ((by rw [hg]; exact (below_size (by repeat (first | (with_reducible first | exact HB.out | apply below_alloc | apply pw_below_drewN | apply below_drew1) | exact HB.out))) : w.heap.size ≤ gb318)); have n3_ := Aside0.mk ((by rw [hg]; exact (below_size (by repeat (first | (with_reducible first | exact HB.out | apply below_alloc | apply pw_below_drewN | apply below_drew1) | exact HB.out))) : w.heap.size ≤ gb318)); clear HB; have HB := n0_; have BK318 := n1_; have GW318 := n2_; have GE318 := n3_; clear n0_ n1_ n2_ n3_; clear hb hbox hg; have hcz6_0 : w5.cell? ⟨gb318, 0, none⟩ = some (.int .i64 a0_0) := (blk_cell BK318.out 0).trans rfl; have hcz6_1 : w5.cell? ⟨gb318, 1, none⟩ = some (.slice A0_1 l0_1.length c0_1) := (blk_cell BK318.out 1).trans rfl; have hfz6_0 := blk_frozen BK318.out 0; have hfz6_1 := blk_frozen BK318.out 1) | ((with_reducible refine gate_callee (f := 66) rfl ?_); refine goesL_ (some 5) rfl rfl Tryz.func66 (by kernel_rfl) rfl #[.agg #[.int .i64 a0_0, .slice A0_1 l0_1.length c0_1]] rfl (by (try simp only [List.map_toArray, List.map_cons, List.map_nil]); first | done | rfl | (simp only [List.length_drop, List.length_take]; rfl)) ?_; (with_reducible refine (impl_IsPuzzle.calls a0_0 _ _ l0_1 true _ ?side1 ?side2 A2.out).mono ?_); (case side1 => repeat (first | exact (Kd.C_below HR0_1.out HB.out) | (with_reducible refine Kd.C_alloc ?_ _) | (with_reducible refine Kd.C_drewN ?_ _) | (with_reducible refine Kd.C_drew ?_))); (case side2 => exact HC0_1.out); rintro e w7 ⟨rfl, hb⟩; refine ⟨_, rfl, ?_⟩; have n0_ := Aside0.mk (blk_below (g := gb318) (o := .cells #[.int .i64 a0_0, .slice A0_1 l0_1.length c0_1] 41 (0, 0)) (by (with_reducible repeat (first | refine blk_drewN ?_ _ | refine blk_drew ?_ | refine blk_alloc ?_ _)); exact BK318.out) hb); have n1_ := Aside0.mk (below_step (by repeat (first | (with_reducible first | exact HB.out | apply below_alloc | apply pw_below_drewN | apply below_drew1 | refine below_set ?_ GE318.out) | exact HB.out)) hb); clear BK318; clear HB; have BK318 := n0_; have HB := n1_; clear n0_ n1_; (try clear hb); (try clear hb2); (try clear hk); (try clear hi); have hcz8_0 : w7.cell? ⟨gb318, 0, none⟩ = some (.int .i64 a0_0) := (blk_cell BK318.out 0).trans rfl; have hcz8_1 : w7.cell? ⟨gb318, 1, none⟩ = some (.slice A0_1 l0_1.length c0_1) := (blk_cell BK318.out 1).trans rfl; have hfz8_0 := blk_frozen BK318.out 0; have hfz8_1 := blk_frozen BK318.out 1) | ((with_reducible refine gate_callee (f := 58) rfl ?_); refine goesL_ (some 11) rfl rfl Tryz.func58 (by kernel_rfl) rfl #[.int .i64 a0_0, .slice A0_1 l0_1.length c0_1] rfl (by (try simp only [List.map_toArray, List.map_cons, List.map_nil]); first | done | rfl | (simp only [List.length_drop, List.length_take]; rfl)) ?_; (with_reducible refine (impl_solutions.calls a0_0 _ _ l0_1 t320 _ ?side1 ?side2 A4.out).mono ?_); (case side1 => repeat (first | exact (Kd.C_below HR0_1.out HB.out) | (with_reducible refine Kd.C_alloc ?_ _) | (with_reducible refine Kd.C_drewN ?_ _) | (with_reducible refine Kd.C_drew ?_))); (case side2 => exact HC0_1.out); rintro e w9 ⟨v321, rfl, ho0, hb⟩; refine ⟨_, rfl, ?_⟩; have n0_ := Aside0.mk (Kd.R_lower ho0 (below_size (by repeat (first | (with_reducible first | exact HB.out | apply below_alloc | apply pw_below_drewN | apply below_drew1 | refine below_set ?_ GE318.out) | exact HB.out)))); have n1_ := Aside0.mk (blk_below (g := gb318) (o := .cells #[.int .i64 a0_0, .slice A0_1 l0_1.length c0_1] 41 (0, 0)) (by (with_reducible repeat (first | refine blk_drewN ?_ _ | refine blk_drew ?_ | refine blk_alloc ?_ _)); exact BK318.out) hb); have n2_ := Aside0.mk (below_step (by repeat (first | (with_reducible first | exact HB.out | apply below_alloc | apply pw_below_drewN | apply below_drew1 | refine below_set ?_ GE318.out) | exact HB.out)) hb); clear BK318; clear HB; have HO322 := n0_; have BK318 := n1_; have HB := n2_; clear n0_ n1_ n2_; (try clear hb); (try clear hb2); (try clear hk); (try clear hi); (try clear ho0)))
  go_ret2
  exact ⟨_, by first | rfl | (simp [errW_none, errW_some] <;> rfl) | (simp [*, errW_none, errW_some] <;> rfl), by (with_reducible repeat (first | apply Kd.R_alloc | apply Kd.R_drewN | apply Kd.R_drew)); exact HO322.out, by repeat (first | (with_reducible first | exact HB.out | apply below_alloc | apply pw_below_drewN | apply below_drew1 | refine below_set ?_ GE318.out) | exact HB.out)⟩
 ·replace c3 := Bool.eq_false_iff.mpr c3
  subst c3
  have H1 : (some (([] : List (S28)), false)) = some (r1, r2) := by rw [if_neg (show ¬ (false = true) by decide)] at H; exact H
  clear H
  have H := H1
  clear H1
  simp only [Option.some.injEq, Prod.mk.injEq] at H
  obtain ⟨rfl, rfl⟩ := H
  go_enter Tryz.func32, Tryz.ntmps32
  go_wp2_with (first | ((with_reducible refine gate_dst (N := 1) rfl ?_); refine box_event ?hg (N := 1) ?hd (cs := #[.int .i64 a0_0, .slice A0_1 l0_1.length c0_1]) (t := 41) ?hr ?_; (case hd => rfl); (case hg => rfl); (case hr => first | (go_simp; done) | (go_simp; rfl)); intro gb318 hg w10 hbox hb; have n0_ := Aside0.mk (below_step (by repeat (first | (with_reducible first | exact HB.out | apply below_alloc | apply pw_below_drewN | apply below_drew1) | exact HB.out)) hb); have n1_ := Aside0.mk (hbox); have n2_ := Aside0.mk ((by rw [hg]; exact (below_size (by repeat (first | (with_reducible first | exact HB.out | apply below_alloc | apply pw_below_drewN | apply below_drew1) | exact HB.out))) : w.heap.size ≤ gb318)); have n3_ := Aside0.mk ((by rw [hg]; exact (below_size (by repeat (first | (with_reducible first | exact HB.out | apply below_alloc | apply pw_below_drewN | apply below_drew1) | exact HB.out))) : w.heap.size ≤ gb318)); clear HB; have HB := n0_; have BK318 := n1_; have GW318 := n2_; have GE318 := n3_; clear n0_ n1_ n2_ n3_; clear hb hbox hg; have hcz11_0 : w10.cell? ⟨gb318, 0, none⟩ = some (.int .i64 a0_0) := (blk_cell BK318.out 0).trans rfl; have hcz11_1 : w10.cell? ⟨gb318, 1, none⟩ = some (.slice A0_1 l0_1.length c0_1) := (blk_cell BK318.out 1).trans rfl; have hfz11_0 := blk_frozen BK318.out 0; have hfz11_1 := blk_frozen BK318.out 1) | ((with_reducible refine gate_callee (f := 66) rfl ?_); refine goesL_ (some 5) rfl rfl Tryz.func66 (by kernel_rfl) rfl #[.agg #[.int .i64 a0_0, .slice A0_1 l0_1.length c0_1]] rfl (by (try simp only [List.map_toArray, List.map_cons, List.map_nil]); first | done | rfl | (simp only [List.length_drop, List.length_take]; rfl)) ?_; (with_reducible refine (impl_IsPuzzle.calls a0_0 _ _ l0_1 false _ ?side1 ?side2 A2.out).mono ?_); (case side1 => repeat (first | exact (Kd.C_below HR0_1.out HB.out) | (with_reducible refine Kd.C_alloc ?_ _) | (with_reducible refine Kd.C_drewN ?_ _) | (with_reducible refine Kd.C_drew ?_))); (case side2 => exact HC0_1.out); rintro e w12 ⟨rfl, hb⟩; refine ⟨_, rfl, ?_⟩; have n0_ := Aside0.mk (blk_below (g := gb318) (o := .cells #[.int .i64 a0_0, .slice A0_1 l0_1.length c0_1] 41 (0, 0)) (by (with_reducible repeat (first | refine blk_drewN ?_ _ | refine blk_drew ?_ | refine blk_alloc ?_ _)); exact BK318.out) hb); have n1_ := Aside0.mk (below_step (by repeat (first | (with_reducible first | exact HB.out | apply below_alloc | apply pw_below_drewN | apply below_drew1 | refine below_set ?_ GE318.out) | exact HB.out)) hb); clear BK318; clear HB; have BK318 := n0_; have HB := n1_; clear n0_ n1_; (try clear hb); (try clear hb2); (try clear hk); (try clear hi)))
  go_ret2
  exact ⟨_, by first | rfl | (simp [errW_none, errW_some] <;> rfl) | (simp [*, errW_none, errW_some] <;> rfl), by first | exact Kd.R_nil _ _ _ _ _ | exact Kd.N_nil _ _ _ _ _ | exact Kd.V_nil _ _ _ _ _ | exact Kd.Q_nil _ _ _ _ _ | exact Kd.S_nil _ _ _ _ _, by repeat (first | (with_reducible first | exact HB.out | apply below_alloc | apply pw_below_drewN | apply below_drew1 | refine below_set ?_ GE318.out) | exact HB.out)⟩
end Go.Proofs.YtnncjnjfdhbddaaGreat.Z
namespace Go.Proofs.YtnncjnjfdhbddaaGreat.Z
open Go.RowKit Go.Proofs.YtnncjnjfdhbddaaGreatW.PrintWords Go.Proofs.YtnncjnjfdhbddaaGreatW.PrintLast Go.Proofs.YtnncjnjfdhbddaaGreatW.PrintMore
attribute [local go_sem] max2_int min2_int max_two min_two max_three min_three max_four min_four
set_option linter.unusedVariables false
set_option linter.unusedSimpArgs false
def impl_CountSolutions.f (a0_0 : Int) (l0_1 : List (S86)) : Option (Int × Bool) := (impl_Solutions.f a0_0 l0_1).bind fun bt324 => (some ((bt324.1.length : Int), bt324.2))
set_option maxHeartbeats 8000000 in
set_option maxRecDepth 100000 in
theorem impl_CountSolutions.calls (a0_0 : Int) (A0_1 : Option Addr) (c0_1 : Nat) (l0_1 : List (S86)) (r1 : Int) (r2 : Bool) (w : World) (hr0_1 : Kd.C k86 w A0_1 l0_1.length l0_1) (hc0_1 : l0_1.length ≤ c0_1) (h : impl_CountSolutions.f a0_0 l0_1 = some (r1, r2)) :
  Calls Tryz.prog 55 #[.agg #[.int .i64 a0_0, .slice A0_1 l0_1.length c0_1]] w fun e w' => e = .returned (.tuple #[.int .i64 r1, .bool r2]) ∧ Below w.heap.size w w' := by
 have hu41 := Tryz.underlying41
 have HR0_1 := Aside0.mk hr0_1
 have HC0_1 := Aside0.mk hc0_1
 clear hr0_1 hc0_1
 have HB := Aside0.mk (Below.refl w.heap.size w)
 have H : ((impl_Solutions.f a0_0 l0_1).bind fun bt324 => (some ((bt324.1.length : Int), bt324.2))) = some (r1, r2) := h
 clear h
 replace H := Option.bind_eq_some_iff.mp H
 obtain ⟨⟨t324, t327⟩, A20, H⟩ := H
 replace H : (some ((t324.length : Int), t327)) = some (r1, r2) := H
 have A2 := Aside0.mk A20
 clear A20
 simp only [Option.some.injEq, Prod.mk.injEq] at H
 obtain ⟨rfl, rfl⟩ := H
 go_enter Tryz.func55, Tryz.ntmps55
 go_wp2_with (first | ((with_reducible refine gate_dst (N := 1) rfl ?_); refine box_event ?hg (N := 1) ?hd (cs := #[.int .i64 a0_0, .slice A0_1 l0_1.length c0_1]) (t := 41) ?hr ?_; (case hd => rfl); (case hg => rfl); (case hr => first | (go_simp; done) | (go_simp; rfl)); intro gb323 hg w3 hbox hb; have n0_ := Aside0.mk (below_step (by repeat (first | (with_reducible first | exact HB.out | apply below_alloc | apply pw_below_drewN | apply below_drew1) | exact HB.out)) hb); have n1_ := Aside0.mk (hbox); have n2_ := Aside0.mk ((by rw [hg]; exact (below_size (by repeat (first | (with_reducible first | exact HB.out | apply below_alloc | apply pw_below_drewN | apply below_drew1) | exact HB.out))) : w.heap.size ≤ gb323)); have n3_ := Aside0.mk ((by rw [hg]; exact (below_size (by repeat (first | (with_reducible first | exact HB.out | apply below_alloc | apply pw_below_drewN | apply below_drew1) | exact HB.out))) : w.heap.size ≤ gb323)); clear HB; have HB := n0_; have BK323 := n1_; have GW323 := n2_; have GE323 := n3_; clear n0_ n1_ n2_ n3_; clear hb hbox hg; have hcz4_0 : w3.cell? ⟨gb323, 0, none⟩ = some (.int .i64 a0_0) := (blk_cell BK323.out 0).trans rfl; have hcz4_1 : w3.cell? ⟨gb323, 1, none⟩ = some (.slice A0_1 l0_1.length c0_1) := (blk_cell BK323.out 1).trans rfl; have hfz4_0 := blk_frozen BK323.out 0; have hfz4_1 := blk_frozen BK323.out 1) | ((with_reducible refine gate_callee (f := 32) rfl ?_); refine goesL_ (some 8) rfl rfl Tryz.func32 (by kernel_rfl) rfl #[.agg #[.int .i64 a0_0, .slice A0_1 l0_1.length c0_1]] rfl (by (try simp only [List.map_toArray, List.map_cons, List.map_nil]); first | done | rfl | (simp only [List.length_drop, List.length_take]; rfl)) ?_; (with_reducible refine (impl_Solutions.calls a0_0 _ _ l0_1 t324 t327 _ ?side1 ?side2 A2.out).mono ?_); (case side1 => repeat (first | exact (Kd.C_below HR0_1.out HB.out) | (with_reducible refine Kd.C_alloc ?_ _) | (with_reducible refine Kd.C_drewN ?_ _) | (with_reducible refine Kd.C_drew ?_))); (case side2 => exact HC0_1.out); rintro e w5 ⟨v325, rfl, ho0, hb⟩; refine ⟨_, rfl, ?_⟩; have n0_ := Aside0.mk (Kd.R_lower ho0 (below_size (by repeat (first | (with_reducible first | exact HB.out | apply below_alloc | apply pw_below_drewN | apply below_drew1 | refine below_set ?_ GE323.out) | exact HB.out)))); have n1_ := Aside0.mk (blk_below (g := gb323) (o := .cells #[.int .i64 a0_0, .slice A0_1 l0_1.length c0_1] 41 (0, 0)) (by (with_reducible repeat (first | refine blk_drewN ?_ _ | refine blk_drew ?_ | refine blk_alloc ?_ _)); exact BK323.out) hb); have n2_ := Aside0.mk (below_step (by repeat (first | (with_reducible first | exact HB.out | apply below_alloc | apply pw_below_drewN | apply below_drew1 | refine below_set ?_ GE323.out) | exact HB.out)) hb); clear BK323; clear HB; have HO326 := n0_; have BK323 := n1_; have HB := n2_; clear n0_ n1_ n2_; (try clear hb); (try clear hb2); (try clear hk); (try clear hi); (try clear ho0); obtain ⟨Ao6, co6, eo6⟩ := Kd.R_slice HO326.out; subst eo6))
 go_ret2
 exact ⟨by first | rfl | (simp [errW_none, errW_some] <;> rfl) | (simp [*, errW_none, errW_some] <;> rfl), by repeat (first | (with_reducible first | exact HB.out | apply below_alloc | apply pw_below_drewN | apply below_drew1 | refine below_set ?_ GE323.out) | exact HB.out)⟩
end Go.Proofs.YtnncjnjfdhbddaaGreat.Z
namespace Go.Proofs.YtnncjnjfdhbddaaGreat.Z
open Go.RowKit Go.Proofs.YtnncjnjfdhbddaaGreatW.PrintWords Go.Proofs.YtnncjnjfdhbddaaGreatW.PrintLast Go.Proofs.YtnncjnjfdhbddaaGreatW.PrintMore
attribute [local go_sem] max2_int min2_int max_two min_two max_three min_three max_four min_four
set_option linter.unusedVariables false
set_option linter.unusedSimpArgs false
def solsG (n : Nat) (l : List S86) : List S28 := (allG n).filter fun g => !(offG n l g)
theorem sols_f (n : Nat) (h : inI (n : Int) 1 4 = true) (l : List S86) (hl : l.all (clueB (n : Int)) = true) : impl_solutions.f (n : Int) l = some (solsG n l) := by
 rw [impl_solutions.f, if_pos ⟨h, hl⟩, Int.toNat_natCast]; rfl
theorem all_erase (p : S86 → Bool) (l : List S86) (k : Nat) (h : l.all p = true) : (l.eraseIdx k).all p = true :=
 List.all_eq_true.2 fun x hx => List.all_eq_true.1 h x ((List.eraseIdx_sublist l k).subset hx)
theorem count_f (a0 : Int) (l : List (S86)) : impl_CountSolutions.f a0 l = some (if puzzB a0 l = true then (((solsG a0.toNat l).length : Nat) : Int) else 0, puzzB a0 l) := by
 rw [impl_CountSolutions.f, impl_Solutions.f, impl_IsPuzzle.f, Option.bind_some]
 cases h : puzzB a0 l with
 | false => simp
 | true =>
  simp only [puzzB, Bool.and_eq_true] at h
  have hi := inI_of h.1
  obtain ⟨n, rfl⟩ := Int.eq_ofNat_of_zero_le (show 0 ≤ a0 by omega)
  rw [if_pos rfl, sols_f n h.1 l h.2.2, Int.toNat_natCast]
  simp
end Go.Proofs.YtnncjnjfdhbddaaGreat.Z
namespace Go.Proofs.YtnncjnjfdhbddaaGreat.Z
open Go.RowKit Go.Proofs.YtnncjnjfdhbddaaGreatW.PrintWords Go.Proofs.YtnncjnjfdhbddaaGreatW.PrintLast Go.Proofs.YtnncjnjfdhbddaaGreatW.PrintMore
attribute [local go_sem] max2_int min2_int max_two min_two max_three min_three max_four min_four
set_option linter.unusedVariables false
set_option linter.unusedSimpArgs false
theorem insP_nil {α : Type} (lt : α → α → Bool) (x : α) : insP lt [] x = [x] := rfl
theorem insP_cons {α : Type} (lt : α → α → Bool) (y : α) (t : List α) (x : α) : insP lt (y :: t) x = if lt y x = true then y :: insP lt t x else x :: y :: t := by
 unfold insP
 rw [List.takeWhile_cons, List.dropWhile_cons]
 cases lt y x <;> simp
theorem insP_pair {α : Type} {lt : α → α → Bool} {le : α → α → Prop} (h1 : ∀ a b, lt a b = true → le a b) (h2 : ∀ a b, lt a b = false → le b a) (ht : ∀ a b c, le a b → le b c → le a c) (x : α) : ∀ l : List α, l.Pairwise le → (insP lt l x).Pairwise le
 | [], _ => by rw [insP_nil]; exact List.pairwise_singleton _ _
 | y :: t, h => by
  obtain ⟨ha, hb⟩ := List.pairwise_cons.1 h
  rw [insP_cons]
  cases hq : lt y x with
  | true =>
   rw [if_pos rfl]
   refine List.pairwise_cons.2 ⟨fun z hz => ?_, insP_pair h1 h2 ht x t hb⟩
   rcases List.mem_cons.1 ((insP_perm lt t x).mem_iff.1 hz) with rfl | hz
   ·exact h1 _ _ hq
   ·exact ha z hz
  | false =>
   rw [if_neg (by simp)]
   refine List.pairwise_cons.2 ⟨fun z hz => ?_, h⟩
   rcases List.mem_cons.1 hz with rfl | hz
   ·exact h2 _ _ hq
   ·exact ht _ _ _ (h2 _ _ hq) (ha z hz)
theorem srtP_pair {α : Type} {lt : α → α → Bool} {le : α → α → Prop} (h1 : ∀ a b, lt a b = true → le a b) (h2 : ∀ a b, lt a b = false → le b a) (ht : ∀ a b c, le a b → le b c → le a c) (l : List α) : (srtP lt l).Pairwise le := by
 have key : ∀ (l acc : List α), acc.Pairwise le → (l.foldl (insP lt) acc).Pairwise le := by
  intro l
  induction l with
  | nil => intro acc h; exact h
  | cons x t ih => intro acc h; exact ih _ (insP_pair h1 h2 ht x acc h)
 exact key l [] List.Pairwise.nil
theorem leB_of_lt {α : Type} {c : α → α → Int} (h : Cmp c) (a b : α) (h1 : decide (c a b < 0) = true) : leB c a b = true := by
 have h2 := of_decide_eq_true h1
 have h3 := h.anti a b
 have h4 := h.anti b a
 exact decide_eq_true (by omega)
theorem leB_of_ge {α : Type} {c : α → α → Int} (a b : α) (h1 : decide (c a b < 0) = false) : leB c b a = true := decide_eq_true (of_decide_eq_false h1)
theorem srtP_sort {α : Type} {c : α → α → Int} (h : Cmp c) (l : List α) : srtP (fun a b => decide (c a b < 0)) l = sortC c l :=
 sortC_unique h (srtP_perm _ l) (srtP_pair (le := fun a b => leB c a b = true) (fun a b => leB_of_lt h a b) (fun a b => leB_of_ge a b) h.le_trans l)
def lookT : Nat → List Bool → List (List Bool)
 | 0, pre => [pre]
 | d + 1, pre => lookT d (pre ++ [true]) ++ (if mustB pre = true then [] else lookT d (pre ++ [false]))
theorem lookP_T (n : Nat) (clues : List S86) : ∀ d pre, lookP n clues d pre = ((lookT d pre).filter (leafB n clues)).map (gameV n)
 | 0, pre => by
  rw [lookP, lookT, leafL, List.filter_cons, List.filter_nil]
  split <;> rfl
 | d + 1, pre => by
  rw [lookP, lookT, lookP_T n clues d, lookP_T n clues d, List.filter_append, List.map_append]
  split <;> rfl
theorem lookT_tabs : ∀ n, 1 ≤ n → n ≤ 4 → (lookT (2 ^ n) []).Perm ((tabs n).map (bitsB n)) := by
 intro n h1 h4
 have : n = 1 ∨ n = 2 ∨ n = 3 ∨ n = 4 := by omega
 rw [← List.isPerm_iff]
 rcases this with h | h | h | h <;> subst h <;> decide +kernel
theorem leastV_B (n : Nat) (hn : n ≤ 9) (wins : List Bool) (m : Nat) (hm : m < 2 ^ n) : leastV wins m = leastB n wins m := by
 unfold leastV leastB
 congr 1
 rw [Bool.eq_iff_iff, List.all_eq_true, List.all_eq_true]
 constructor
 ·intro h i hi
  cases hb : m.testBit i with
  | false => rfl
  | true =>
   have := h i (List.mem_filter.2 ⟨List.mem_range.2 (by have := List.mem_range.1 hi; omega), hb⟩)
   simpa using this
 ·intro h i hi
  obtain ⟨_, hb⟩ := List.mem_filter.1 hi
  have hin : i < n := by
   rcases Nat.lt_or_ge i n with h | h
   ·exact h
   ·have := Nat.testBit_lt_two_pow (show m < 2 ^ i from Nat.lt_of_lt_of_le hm (Nat.pow_le_pow_right (by decide) h))
    rw [this] at hb; cases hb
  have := h i (List.mem_range.2 hin)
  rw [hb] at this
  simpa using this
theorem game_VT (n t : Nat) (hn : n ≤ 9) : gameV n (bitsB n t) = gameT n t := by
 unfold gameV gameT leastL leastSets
 congr 1
 have e : partS (leastV (bitsB n t)) (bitsB n t).length = partS (leastB n (bitsB n t)) (bitsB n t).length := by
  unfold partS
  congr 1
  refine List.filter_congr fun m hm => ?_
  exact leastV_B n hn _ m (by have := List.mem_range.1 hm; rwa [bitsB_len] at this)
 rw [e]
 exact srtP_sort Cmp.L _
theorem tableOf_perm (n : Nat) {l l' : List (List Int)} (h : l.Perm l') : tableOf n l = tableOf n l' := by
 unfold tableOf
 refine List.map_congr_left fun m _ => ?_
 rw [Bool.eq_iff_iff, List.any_eq_true, List.any_eq_true]
 have := h.map maskN
 constructor
 ·rintro ⟨x, hx, h2⟩; exact ⟨x, this.mem_iff.1 hx, h2⟩
 ·rintro ⟨x, hx, h2⟩; exact ⟨x, this.mem_iff.2 hx, h2⟩
theorem table_back0 : ∀ n, n ≤ 4 → ∀ t ∈ tabs n, tableOf n (partS (leastB n (bitsB n t)) (2 ^ n)) = bitsB n t := by decide +kernel
theorem table_back (n t : Nat) (hn : n ≤ 4) (ht : t ∈ tabs n) : tableOf n (gameT n t).f1 = bitsB n t := by
 show tableOf n (leastSets n (bitsB n t)) = _
 rw [leastSets, tableOf_perm n (sortC_perm cmpL _), bitsB_len]
 exact table_back0 n hn t ht
theorem bits_getD (n t m : Nat) (h : m < 2 ^ n) : (bitsB n t).getD m false = t.testBit m := by
 simp [bitsB, List.getD_eq_getElem?_getD, h]
theorem leaf_tab (n t : Nat) (hn : n ≤ 4) (ht : t ∈ tabs n) (clues : List S86) : leafB n clues (bitsB n t) = (isTab n t && !(offG n clues (gameT n t))) := by
 have hp := Nat.two_pow_pos n
 unfold leafB isTab offG
 rw [table_back n t hn ht, bits_getD n t _ (by omega), bits_getD n t _ (by omega), List.not_any_eq_all_not]
 have e : clues.all (fitsW n (bitsB n t)) = clues.all (fun c => !(neC (toldV n (bitsB n t) c) c)) := rfl
 rw [e]
 cases t.testBit (2 ^ n - 1) <;> cases t.testBit 0 <;> simp
theorem found_perm (n : Nat) (h1 : 1 ≤ n) (hn : n ≤ 4) (clues : List S86) : (foundG n clues).Perm ((rawG n (tabs n)).filter fun g => !(offG n clues g)) := by
 have e1 : foundG n clues = ((lookT (2 ^ n) []).filter (leafB n clues)).map (gameV n) := lookP_T n clues _ _
 have e2 := ((lookT_tabs n h1 hn).filter (leafB n clues)).map (gameV n)
 rw [e1]
 refine e2.trans ?_
 rw [List.filter_map, List.map_map, rawG, List.filter_map, List.filter_filter]
 have e3 : (tabs n).filter (leafB n clues ∘ bitsB n) = (tabs n).filter (fun a => ((fun g => !(offG n clues g)) ∘ gameT n) a && isTab n a) := by
  refine List.filter_congr fun t ht => ?_
  show leafB n clues (bitsB n t) = (!(offG n clues (gameT n t)) && isTab n t)
  rw [leaf_tab n t hn ht, Bool.and_comm]
 rw [e3]
 have e4 : (gameV n ∘ bitsB n) = gameT n := funext fun t => game_VT n t (by omega)
 rw [e4]
theorem rawG_f0 (n : Nat) (l : List Nat) : ∀ x ∈ rawG n l, x = ⟨(n : Int), x.f1⟩ := fun x hx => by
 obtain ⟨t, _, rfl⟩ := List.mem_map.1 hx
 rfl
theorem allG_perm (n : Nat) : (allG n).Perm (rawG n (tabs n)) := by
 have h := (sortC_perm cmpLL ((rawG n (tabs n)).map S28.f1)).map (fun ws => (⟨(n : Int), ws⟩ : S28))
 rw [List.map_map] at h
 have e : (rawG n (tabs n)).map ((fun ws => (⟨(n : Int), ws⟩ : S28)) ∘ S28.f1) = rawG n (tabs n) := by
  conv => rhs; rw [← List.map_id (rawG n (tabs n))]
  exact List.map_congr_left fun x hx => (rawG_f0 n _ x hx).symm
 rw [e] at h
 exact h
theorem allG_sorted (n : Nat) : (allG n).Pairwise fun a b => leB cmpLL a.f1 b.f1 = true := by
 unfold allG
 rw [List.pairwise_map]
 exact sortC_sorted Cmp.LL _
theorem games_eq (n : Int) {l l' : List S28} (hp : l.Perm l') (h1 : l.Pairwise fun a b => leB cmpLL a.f1 b.f1 = true) (h2 : l'.Pairwise fun a b => leB cmpLL a.f1 b.f1 = true) (hf : ∀ x ∈ l, x.f0 = n) : l = l' := by
 refine List.Perm.eq_of_pairwise (fun a b ha hb hab hba => ?_) h1 h2 hp
 have e1 := Cmp.LL.le_anti _ _ hab hba
 have e2 := hf a ha
 have e3 := hf b (hp.mem_iff.2 hb)
 obtain ⟨a0, a1⟩ := a
 obtain ⟨b0, b1⟩ := b
 simp only at e1 e2 e3
 rw [e1, e2, e3]
theorem found_sols (n : Nat) (h1 : 1 ≤ n) (hn : n ≤ 4) (clues : List S86) : srtP befG (foundG n clues) = solsG n clues := by
 have hp : (srtP befG (foundG n clues)).Perm (solsG n clues) :=
  ((srtP_perm befG _).trans (found_perm n h1 hn clues)).trans ((allG_perm n).filter _).symm
 refine games_eq (n : Int) hp ?_ ?_ ?_
 ·refine srtP_pair (lt := befG) (fun a b h => leB_of_lt Cmp.LL a.f1 b.f1 h) (fun a b h => leB_of_ge a.f1 b.f1 h) (fun a b c => Cmp.LL.le_trans a.f1 b.f1 c.f1) _
 ·exact (allG_sorted n).sublist List.filter_sublist
 ·intro x hx
  have h2 := (allG_perm n).mem_iff.1 (List.mem_filter.1 (hp.mem_iff.1 hx)).1
  rw [rawG_f0 n _ x h2]
end Go.Proofs.YtnncjnjfdhbddaaGreat.Z
namespace Go.Proofs.YtnncjnjfdhbddaaGreat.Z
open Go.RowKit Go.Proofs.YtnncjnjfdhbddaaGreatW.PrintWords Go.Proofs.YtnncjnjfdhbddaaGreatW.PrintLast Go.Proofs.YtnncjnjfdhbddaaGreatW.PrintMore
attribute [local go_sem] max2_int min2_int max_two min_two max_three min_three max_four min_four
set_option linter.unusedVariables false
set_option linter.unusedSimpArgs false
def spec_pzAll.f (a0 : Int) (l1 : List (S86)) : Option ((List (S28))) := if inI a0 1 4 = true ∧ l1.all (clueB a0) = true ∧ l1.length ≤ 1000 then some (solsG a0.toNat l1) else none
theorem spec_pzAll.calls (a0 : Int) (A1 : Option Addr) (c1 : Nat) (l1 : List (S86)) (r : List (S28)) (w : World) (hr1 : Kd.C k86 w A1 l1.length l1) (hc1 : l1.length ≤ c1) (h : spec_pzAll.f a0 l1 = some r) :
  Calls Tryz.prog 52 #[.int .i64 a0, .slice A1 l1.length c1] w fun e w' => ∃ v0_ : Value, e = .returned (v0_) ∧ Kd.V k28 28 w' w.heap.size (fun k_ => (w.heap.size ≤ k_)) v0_ r ∧ Below w.heap.size w w' := by
 unfold spec_pzAll.f at h
 split at h
 ·rename_i hh
  obtain rfl := Option.some.inj h
  have hi := inI_of hh.1
  obtain ⟨n, rfl⟩ := Int.eq_ofNat_of_zero_le (show 0 ≤ a0 by omega)
  rw [Int.toNat_natCast]
  refine (pzAll_any n (by omega) (by omega) l1 (List.all_eq_true.1 hh.2.1) hh.2.2 A1 c1 w hr1).mono ?_
  rintro e w' ⟨v, rfl, hR, hB⟩
  rw [found_sols n (by omega) (by omega)] at hR
  exact ⟨v, rfl, Kd.R_V (Kd.R_mono (Kd.R_bound hR) (fun k hk => hk.2.1)), hB⟩
 ·cases h
end Go.Proofs.YtnncjnjfdhbddaaGreat.Z
