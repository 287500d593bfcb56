import Derived.Test.YtnncjnjfdhbddaaGreatCFirs1
import Derived.Shelf.Abstract
import Derived.Deep.QuietTactic
import Derived.BigQuiet
import Derived.Sort.Grow
import Derived.Shelf.SlGeneric
import Derived.Shelf.SlSortCmp.NoneTotal
import Derived.Ground.SlsfProg
import Derived.Test.YtnncjnjfdhbddaaGreatProg
import Derived.Deep.RegionHeld3
namespace Go.Proofs.YtnncjnjfdhbddaaGreat.Z
open Go.RowKit Go.Proofs.YtnncjnjfdhbddaaGreatW.PrintWords Go.Proofs.YtnncjnjfdhbddaaGreatW.PrintLast Go.Proofs.YtnncjnjfdhbddaaGreatW.PrintMore
attribute [local go_sem] max2_int min2_int max_two min_two max_three min_three max_four min_four
set_option linter.unusedVariables false
set_option linter.unusedSimpArgs false
mutual
def impl_votes_swings.l0 : Nat → List Int → Int → Int → Int → List Bool → Option (List Int)
 | 0, _, _, _, _, _ => none
 | k + 1, x3, x10, x11, x669000, x669001 => if x11 < x10 then (impl_votes_swings.l1 k x3 x11 x10 x11 (x669001.length : Int) 0 x669000 x669001) else (some x3)
def impl_votes_swings.l1 : Nat → List Int → Int → Int → Int → Int → Int → Int → List Bool → Option (List Int)
 | 0, _, _, _, _, _, _, _, _ => none
 | k + 1, x3, x4, x10, x11, x16, x17, x669000, x669001 => if x17 < x16 then ((impl_votes_isSwing.f x669000 x669001 x17 x4).bind fun t672 => (if t672 = true then (if 0 ≤ x4 then (if x4 < (x3.length : Int) then (impl_votes_swings.l1 k (x3.set (x4 : Int).toNat (wrap64 ((rd x3 x4) + 1))) x4 x10 x11 x16 (wrap64 (x17 + 1)) x669000 x669001) else (none)) else (none)) else (impl_votes_swings.l1 k x3 x4 x10 x11 x16 (wrap64 (x17 + 1)) x669000 x669001))) else (impl_votes_swings.l0 k x3 x10 (wrap64 (x11 + 1)) x669000 x669001)
end
def impl_votes_swings.f (k : Nat) (a0_0 : Int) (l0_1 : List Bool) : Option (List Int) := if 0 ≤ a0_0 then (if (a0_0 : Int).toNat ≤ 35184372088832 then ((some (List.replicate (a0_0 : Int).toNat 0 : List Int)).bind fun y669 => (impl_votes_swings.l0 k y669 (y669.length : Int) 0 a0_0 l0_1)) else (none)) else (none)
set_option maxHeartbeats 8000000 in
set_option maxRecDepth 100000 in
theorem impl_votes_swings.calls (k : Nat) (a0_0 : Int) (A0_1 : Option Addr) (c0_1 : Nat) (l0_1 : List Bool) (r : List Int) (w : World) (hr0_1 : Kd.C Kd.bool w A0_1 l0_1.length l0_1) (hc0_1 : l0_1.length ≤ c0_1) (h : impl_votes_swings.f k a0_0 l0_1 = some r) :
  Calls Tryz.prog 133 #[.agg #[.int .i64 a0_0, .slice A0_1 l0_1.length c0_1]] w fun e w' => ∃ v0_ : Value, e = .returned (v0_) ∧ Kd.R (Kd.int .i64) 3 w' w.heap.size (fun _ => True) v0_ r ∧ Below w.heap.size w w' := by
 have hu68 := Tryz.underlying68
 have HR0_1 := Aside0.mk hr0_1
 have HC0_1 := Aside0.mk hc0_1
 clear hr0_1 hc0_1
 have HB := Aside0.mk (Below.refl w.heap.size w)
 have H : (if 0 ≤ a0_0 then (if (a0_0 : Int).toNat ≤ 35184372088832 then ((some (List.replicate (a0_0 : Int).toNat 0 : List Int)).bind fun y669 => (impl_votes_swings.l0 k y669 (y669.length : Int) 0 a0_0 l0_1)) else (none)) else (none)) = some r := h
 clear h
 by_cases c2 : 0 ≤ a0_0
 ·rw [if_pos c2] at H
  have c2b0 := eq_true c2
  have c2b1 : decide (0 ≤ a0_0) = true := decide_eq_true c2
  clear c2
  by_cases c3 : (a0_0 : Int).toNat ≤ 35184372088832
  ·rw [if_pos c3] at H
   have c3b0 := eq_true c3
   have c3b1 : decide ((a0_0 : Int).toNat ≤ 35184372088832) = true := decide_eq_true c3
   clear c3
   obtain ⟨y669, hy669⟩ : ∃ y_ : List Int, y_ = (List.replicate (a0_0 : Int).toNat 0) := ⟨_, rfl⟩
   replace H : (impl_votes_swings.l0 k y669 (y669.length : Int) 0 a0_0 l0_1) = some r := by first | (rw [hy669]; with_reducible exact H) | (have H2_ := (Option.bind_some _ _).symm.trans H; rw [hy669]; with_reducible exact H2_) | (have H2_ := (Option.bind_some _ _).symm.trans H; with_reducible exact H2_) | with_reducible exact H | (rw [hy669]; exact H) | exact H
   have Ny669 := Aside0.mk hy669
   clear hy669
   have H' := Aside0.mk H
   clear H
   go_enter Tryz.func133, Tryz.ntmps133
   go_wp2_with (first | ((with_reducible refine gate_dst (N := 1) rfl ?_); refine box_event ?hg (N := 1) ?hd (cs := #[.int .i64 a0_0, .slice A0_1 l0_1.length c0_1]) (t := 68) ?hr ?_; (case hd => rfl); (case hg => rfl); (case hr => first | (go_simp; done) | (go_simp; rfl)); intro gb668 hg w4 hbox hb; have n0_ := Aside0.mk (below_step (by repeat (first | (with_reducible first | exact HB.out | apply below_alloc | apply pw_below_drewN | apply below_drew1) | exact HB.out)) hb); have n1_ := Aside0.mk (hbox); have n2_ := Aside0.mk ((by rw [hg]; exact (below_size (by repeat (first | (with_reducible first | exact HB.out | apply below_alloc | apply pw_below_drewN | apply below_drew1) | exact HB.out))) : w.heap.size ≤ gb668)); have n3_ := Aside0.mk ((by rw [hg]; exact (below_size (by repeat (first | (with_reducible first | exact HB.out | apply below_alloc | apply pw_below_drewN | apply below_drew1) | exact HB.out))) : w.heap.size ≤ gb668)); clear HB; have HB := n0_; have BK668 := n1_; have GW668 := n2_; have GE668 := n3_; clear n0_ n1_ n2_ n3_; clear hb hbox hg; have hcz5_0 : w4.cell? ⟨gb668, 0, none⟩ = some (.int .i64 a0_0) := (blk_cell BK668.out 0).trans rfl; have hcz5_1 : w4.cell? ⟨gb668, 1, none⟩ = some (.slice A0_1 l0_1.length c0_1) := (blk_cell BK668.out 1).trans rfl; have hfz5_0 := blk_frozen BK668.out 0; have hfz5_1 := blk_frozen BK668.out 1) | ((with_reducible refine gate_dst (N := 8) rfl ?_); refine Kd.R_make (Kd.int .i64) _ 3 rfl (N := 8) rfl 36 _ _ rfl a0_0 rfl rfl Tryz.underlying36 (.int .i64 0) 8 info3 rfl (by decide) (by omega) 0 (ok := fun _ => True) (okp := fun _ => True) rfl (fun _ hk => hk) trivial (of_decide_eq_true (by first | (with_reducible assumption) | assumption)) (Nat.le_trans (Nat.mul_le_mul_right _ (of_decide_eq_true (by first | (with_reducible assumption) | assumption) : a0_0.toNat ≤ 35184372088832)) (by omega)) (Below.refl _ _) (Nat.le_refl _) ?_; intro v670 w6 ho7 hb hg_ hnew_; clear hg_ hnew_; (first | rw [← Ny669.out] at ho7 | (simp only [Int.reduceToNat] at ho7; rw [← Ny669.out] at ho7)); have n0_ := Aside0.mk (Kd.R_lower ho7 (below_size (by repeat (first | (with_reducible first | exact HB.out | apply below_alloc | apply pw_below_drewN | apply below_drew1 | refine below_set ?_ GE668.out) | exact HB.out)))); have n1_ := Aside0.mk (blk_below (g := gb668) (o := .cells #[.int .i64 a0_0, .slice A0_1 l0_1.length c0_1] 68 (0, 0)) (by (with_reducible repeat (first | refine blk_drewN ?_ _ | refine blk_drew ?_ | refine blk_alloc ?_ _)); exact BK668.out) hb); have n2_ := Aside0.mk (below_step (by repeat (first | (with_reducible first | exact HB.out | apply below_alloc | apply pw_below_drewN | apply below_drew1 | refine below_set ?_ GE668.out) | exact HB.out)) hb); clear BK668; clear HB; have HO671 := n0_; have BK668 := n1_; have HB := n2_; clear n0_ n1_ n2_; clear hb ho7; obtain ⟨Ao8, co8, eo8⟩ := Kd.R_slice HO671.out; subst eo8))
   go_loopg [11] k (fun kq v11 w' => ∃ (x3_1 : List Int) (x11_1 : Int), v11 = .int .i64 x11_1 ∧ Aside0 (impl_votes_swings.l0 kq x3_1 (y669.length : Int) x11_1 a0_0 l0_1 = some r) ∧ Aside0 (kq ≤ k) ∧ Aside0 (Kd.R (Kd.int .i64) 3 w' w.heap.size (fun _ => True) (.slice Ao8 y669.length co8) x3_1) ∧ Aside0 (w'.heap[gb668]? = some (.cells #[.int .i64 a0_0, (.slice A0_1 l0_1.length c0_1)] 68 (0, 0))) ∧ Aside0 (Below w.heap.size w w'))
   case atStart => exact ⟨(y669), (0), (by first | rfl | (simp; done) | (simp [*]; done)), H', ⟨Nat.le_refl _⟩, ⟨by (with_reducible repeat (first | apply Kd.R_alloc | apply Kd.R_drewN | apply Kd.R_drew)); exact HO671.out⟩, ⟨by (with_reducible repeat (first | refine blk_drewN ?_ _ | refine blk_drew ?_ | refine blk_alloc ?_ _)); exact BK668.out⟩, ⟨by repeat (first | (with_reducible first | exact HB.out | apply below_alloc | apply pw_below_drewN | apply below_drew1 | refine below_set ?_ GE668.out) | exact HB.out)⟩⟩
   case round =>
    clear H'
    try clear c1
    try clear c2
    try clear c2b0
    try clear c2b1
    try clear p2
    try clear c3
    try clear c3b0
    try clear c3b1
    try clear hcz5_0
    try clear hcz5_1
    try clear hfz5_0
    try clear hfz5_1
    obtain ⟨x3_1, x11_1, rfl, HA, HK1, HO_3, BK668, HB⟩ := hrel
    have hl3_1 := (Kd.R_reads' HO_3.out).1
    rw [hl3_1] at HO_3
    (try simp only [hl3_1])
    (try simp only [hl3_1] at BK668)
    cases gk with
    | zero => exact absurd HA.out (by simp [impl_votes_swings.l0])
    | succ k1 =>
     have H := HA.out
     clear HA
     simp only [impl_votes_swings.l0] at H
     by_cases c9 : x11_1 < (y669.length : Int)
     ·rw [if_pos c9] at H
      have c9b0 : decide (x11_1 < (y669.length : Int)) = true := decide_eq_true c9
      have c9b0x := c9b0
      rw [hl3_1] at c9b0x
      clear c9
      have H' := Aside0.mk H
      clear H
      have hcz10_0 : wr.cell? ⟨gb668, 0, none⟩ = some (.int .i64 a0_0) := (blk_cell BK668.out 0).trans rfl
      have hcz10_1 : wr.cell? ⟨gb668, 1, none⟩ = some (.slice A0_1 l0_1.length c0_1) := (blk_cell BK668.out 1).trans rfl
      have hfz10_0 := blk_frozen BK668.out 0
      have hfz10_1 := blk_frozen BK668.out 1
      go_wp2
      go_loopg [17] k1 (fun kq v17 w' => ∃ (x3_2 : List Int) (x17_2 : Int), v17 = .int .i64 x17_2 ∧ Aside0 (impl_votes_swings.l1 kq x3_2 x11_1 (y669.length : Int) x11_1 (l0_1.length : Int) x17_2 a0_0 l0_1 = some r) ∧ Aside0 (kq ≤ k1) ∧ Aside0 (Kd.R (Kd.int .i64) 3 w' w.heap.size (fun _ => True) (.slice Ao8 x3_1.length co8) x3_2) ∧ Aside0 (w'.heap[gb668]? = some (.cells #[.int .i64 a0_0, (.slice A0_1 l0_1.length c0_1)] 68 (0, 0))) ∧ Aside0 (Below w.heap.size w w'))
      case atStart => exact ⟨(x3_1), (0), (by first | rfl | (simp; done) | (simp [*]; done)), H', ⟨Nat.le_refl _⟩, ⟨by (try simp only [hl3_1]); (with_reducible repeat (first | apply Kd.R_alloc | apply Kd.R_drewN | apply Kd.R_drew)); exact HO_3.out⟩, ⟨by (try simp only [hl3_1]); (with_reducible repeat (first | refine blk_drewN ?_ _ | refine blk_drew ?_ | refine blk_alloc ?_ _)); exact BK668.out⟩, ⟨by repeat (first | (with_reducible first | exact HB.out | apply below_alloc | apply pw_below_drewN | apply below_drew1 | refine below_set ?_ GE668.out) | exact HB.out)⟩⟩
      case round =>
       clear H'
       try clear c1
       try clear c2
       try clear c2b0
       try clear c2b1
       try clear p2
       try clear c3
       try clear c3b0
       try clear c3b1
       try clear c9
       try clear c9b0
       try clear hcz10_0
       try clear hcz10_1
       try clear hcz5_0
       try clear hcz5_1
       try clear hfz10_0
       try clear hfz10_1
       try clear hfz5_0
       try clear hfz5_1
       try clear p2
       obtain ⟨x3_2, x17_2, rfl, HA, HK2, HO_3, BK668, HB⟩ := hrel
       have hl3_2 := (Kd.R_reads' HO_3.out).1
       rw [hl3_2] at HO_3
       (try simp only [hl3_2])
       (try simp only [hl3_2] at BK668)
       cases gk with
       | zero => exact absurd HA.out (by simp [impl_votes_swings.l1])
       | succ k2 =>
        have H := HA.out
        clear HA
        simp only [impl_votes_swings.l1] at H
        by_cases c11 : x17_2 < (l0_1.length : Int)
        ·rw [if_pos c11] at H
         have c11b0 : decide (x17_2 < (l0_1.length : Int)) = true := decide_eq_true c11
         clear c11
         replace H := Option.bind_eq_some_iff.mp H
         obtain ⟨t672, A120, H⟩ := H
         replace H : (if t672 = true then (if 0 ≤ x11_1 then (if x11_1 < (x3_2.length : Int) then (impl_votes_swings.l1 k2 (x3_2.set (x11_1 : Int).toNat (wrap64 ((rd x3_2 x11_1) + 1))) x11_1 (y669.length : Int) x11_1 (l0_1.length : Int) (wrap64 (x17_2 + 1)) a0_0 l0_1) else (none)) else (none)) else (impl_votes_swings.l1 k2 x3_2 x11_1 (y669.length : Int) x11_1 (l0_1.length : Int) (wrap64 (x17_2 + 1)) a0_0 l0_1)) = some r := H
         have A12 := Aside0.mk A120
         clear A120
         by_cases c13 : t672 = true
         ·subst c13
          have H1 : (if 0 ≤ x11_1 then (if x11_1 < (x3_2.length : Int) then (impl_votes_swings.l1 k2 (x3_2.set (x11_1 : Int).toNat (wrap64 ((rd x3_2 x11_1) + 1))) x11_1 (y669.length : Int) x11_1 (l0_1.length : Int) (wrap64 (x17_2 + 1)) a0_0 l0_1) else (none)) else (none)) = some r := by rw [if_pos rfl] at H; exact H
          clear H
          have H := H1
          clear H1
          by_cases c14 : 0 ≤ x11_1
          ·rw [if_pos c14] at H
           have c14b0 : decide (0 ≤ x11_1) = true := decide_eq_true c14
           clear c14
           by_cases c15 : x11_1 < (x3_2.length : Int)
           ·rw [if_pos c15] at H
            have c15b0 : decide (x11_1 < (x3_2.length : Int)) = true := decide_eq_true c15
            clear c15
            obtain ⟨y674, hy674⟩ : ∃ y_ : List Int, y_ = (x3_2.set (x11_1 : Int).toNat (wrap64 ((rd x3_2 x11_1) + 1))) := ⟨_, rfl⟩
            replace H : (impl_votes_swings.l1 k2 y674 x11_1 (y669.length : Int) x11_1 (l0_1.length : Int) (wrap64 (x17_2 + 1)) a0_0 l0_1) = some r := by first | (rw [hy674]; with_reducible exact H) | (have H2_ := (Option.bind_some _ _).symm.trans H; rw [hy674]; with_reducible exact H2_) | (have H2_ := (Option.bind_some _ _).symm.trans H; with_reducible exact H2_) | with_reducible exact H | (rw [hy674]; exact H) | exact H
            have Ny674 := Aside0.mk hy674
            clear hy674
            have H' := Aside0.mk H
            clear H
            have hcz17_0 : wr.cell? ⟨gb668, 0, none⟩ = some (.int .i64 a0_0) := (blk_cell BK668.out 0).trans rfl
            have hcz17_1 : wr.cell? ⟨gb668, 1, none⟩ = some (.slice A0_1 l0_1.length c0_1) := (blk_cell BK668.out 1).trans rfl
            have hfz17_0 := blk_frozen BK668.out 0
            have hfz17_1 := blk_frozen BK668.out 1
            go_wp2_with (first | ((with_reducible refine gate_callee (f := 155) rfl ?_); refine goesL_ (some 23) rfl rfl Tryz.func155 (by kernel_rfl) rfl #[.agg #[.int .i64 a0_0, .slice A0_1 l0_1.length c0_1], .int .i64 x17_2, .int .i64 x11_1] rfl (by (try simp only [List.map_toArray, List.map_cons, List.map_nil]); first | done | rfl | (simp only [List.length_drop, List.length_take]; rfl)) ?_; (with_reducible refine (impl_votes_isSwing.calls a0_0 _ _ l0_1 x17_2 x11_1 true _ ?side1 ?side2 A12.out).mono ?_); (case side1 => repeat (first | exact (Kd.C_below HR0_1.out HB.out) | (with_reducible refine Kd.C_alloc ?_ _) | (with_reducible refine Kd.C_drewN ?_ _) | (with_reducible refine Kd.C_drew ?_))); (case side2 => exact HC0_1.out); rintro e w18 ⟨rfl, hb⟩; refine ⟨_, rfl, ?_⟩; have n0_ := Aside0.mk (Kd.R_below (by (with_reducible repeat (first | apply Kd.R_alloc | apply Kd.R_drewN | apply Kd.R_drew)); exact HO_3.out) hb); have n1_ := Aside0.mk (blk_below (g := gb668) (o := .cells #[.int .i64 a0_0, .slice A0_1 l0_1.length c0_1] 68 (0, 0)) (by (with_reducible repeat (first | refine blk_drewN ?_ _ | refine blk_drew ?_ | refine blk_alloc ?_ _)); exact BK668.out) hb); have n2_ := Aside0.mk (below_step (by repeat (first | (with_reducible first | exact HB.out | apply below_alloc | apply pw_below_drewN | apply below_drew1 | refine below_set ?_ GE668.out) | exact HB.out)) hb); clear HO_3; clear BK668; clear HB; have HO_3 := n0_; have BK668 := n1_; have HB := n2_; clear n0_ n1_ n2_; (try clear hb); (try clear hb2); (try clear hk); (try clear hi); have p673 : 0 ≤ (x11_1 : Int) := of_decide_eq_true (by first | (with_reducible assumption) | assumption); have q673 : x11_1 < (x3_2.length : Int) := of_decide_eq_true (by first | (with_reducible assumption) | assumption); obtain ⟨ad673, e673, hx673_0⟩ := Kd.at_int (Kd.R_reads' HO_3.out).2.2 x11_1 p673 q673; cases e673; replace p673 := eq_true p673; replace q673 := eq_true q673; have p16 : 0 ≤ (x11_1 : Int) := of_decide_eq_true (by first | (with_reducible assumption) | assumption); have q16 : (x11_1 : Int) < ((x3_2.length : Int) : Int) := of_decide_eq_true (by first | (with_reducible assumption) | assumption); obtain ⟨go16, co16, eo16, gb16, gl16, cl16, HG16⟩ := Kd.R_form HO_3.out (by omega); (first | cases eo16 | (injection eo16 with ea_ en_ ec_; (first | subst ea_ | (injection ea_ with ea_; subst ea_)); subst ec_; clear en_)); have GB16 := Aside0.mk gb16; have GG16 := Aside0.mk HG16; clear gb16 gl16 HG16; (first | simp only [add_plain] at hx673_0 | skip); obtain ⟨hx16_0, hf16_0⟩ := Kd.R_celln 0 HO_3.out (x11_1 : Int) p16 q16; replace p16 := eq_true p16; replace q16 := eq_true q16; obtain ⟨hy19_, hz19_⟩ := Kd.R_celln 0 HO_3.out (x11_1 : Int) (of_decide_eq_true (by first | (with_reducible assumption) | assumption)) (of_decide_eq_true (by first | (with_reducible assumption) | assumption)); have HP19 := Kd.R_putg HO_3.out (x11_1 : Int) (wrap64 ((rd x3_2 x11_1) + 1))) | ((with_reducible refine gate_store (t := 3) (p := 29) rfl ?_); refine store_event (t := 3) (p := 29) (v := ?vo_w20) (w1 := (w18.setCell ⟨go16, (x11_1 : Int).toNat, none⟩ (.int .i64 (wrap64 ((rd x3_2 x11_1) + 1))))) ?hg ?ho ?hn ?hr ?_; (case ho => rfl); (case hg => rfl); (case hn => rfl); (case hr => first | (go_simp; done) | (go_simp; rfl)); intro w20 hw; have hg : w18.grownBy w20 (some go16) := (by rw [hw]; exact HP19.2); have hp_ : Kd.R (Kd.int .i64) 3 w20 w.heap.size (fun _ => True) (.slice (some ⟨go16, 0, none⟩) x3_2.length co8) y674 := (by rw [hw, Ny674.out]; exact HP19.1); clear HP19; have n0_ := Aside0.mk (hp_); have n1_ := Aside0.mk (blk_grown (g := gb668) (o := .cells #[.int .i64 a0_0, .slice A0_1 l0_1.length c0_1] 68 (0, 0)) (by (with_reducible repeat (first | refine blk_drewN ?_ _ | refine blk_drew ?_ | refine blk_alloc ?_ _)); exact BK668.out) hg (Kd.R_ne HO_3.out BK668.out (by decide))); have n2_ := Aside0.mk ((by rw [hw]; exact below_set (HB.out) GB16.out : Below w.heap.size w w20)); clear HO_3; clear BK668; clear HB; have HO_3 := n0_; have BK668 := n1_; have HB := n2_; clear n0_ n1_ n2_; clear hg hw hp_))
            (try simp only [← hl3_2])
            go_roundg k2
            case measure => have := HK1.out; have := HK2.out; omega
            case rel => exact ⟨(y674), (wrap64 (x17_2 + 1)), (by first | rfl | (simp; done) | (simp [*]; done)), H', ⟨by have := HK1.out; have := HK2.out; omega⟩, ⟨by (try simp only [hl3_1]); (try simp only [hl3_2]); (with_reducible repeat (first | apply Kd.R_alloc | apply Kd.R_drewN | apply Kd.R_drew)); exact HO_3.out⟩, ⟨by (try simp only [hl3_1]); (try simp only [hl3_2]); (with_reducible repeat (first | refine blk_drewN ?_ _ | refine blk_drew ?_ | refine blk_alloc ?_ _)); exact BK668.out⟩, ⟨by repeat (first | (with_reducible first | exact HB.out | apply below_alloc | apply pw_below_drewN | apply below_drew1 | refine below_set ?_ GE668.out) | exact HB.out)⟩⟩
           ·rw [if_neg c15] at H
            exact absurd H (by simp)
          ·rw [if_neg c14] at H
           exact absurd H (by simp)
         ·replace c13 := Bool.eq_false_iff.mpr c13
          subst c13
          have H1 : (impl_votes_swings.l1 k2 x3_2 x11_1 (y669.length : Int) x11_1 (l0_1.length : Int) (wrap64 (x17_2 + 1)) a0_0 l0_1) = some r := by rw [if_neg (show ¬ (false = true) by decide)] at H; exact H
          clear H
          have H := H1
          clear H1
          have H' := Aside0.mk H
          clear H
          have hcz21_0 : wr.cell? ⟨gb668, 0, none⟩ = some (.int .i64 a0_0) := (blk_cell BK668.out 0).trans rfl
          have hcz21_1 : wr.cell? ⟨gb668, 1, none⟩ = some (.slice A0_1 l0_1.length c0_1) := (blk_cell BK668.out 1).trans rfl
          have hfz21_0 := blk_frozen BK668.out 0
          have hfz21_1 := blk_frozen BK668.out 1
          go_wp2_with (first | ((with_reducible refine gate_callee (f := 155) rfl ?_); refine goesL_ (some 23) rfl rfl Tryz.func155 (by kernel_rfl) rfl #[.agg #[.int .i64 a0_0, .slice A0_1 l0_1.length c0_1], .int .i64 x17_2, .int .i64 x11_1] rfl (by (try simp only [List.map_toArray, List.map_cons, List.map_nil]); first | done | rfl | (simp only [List.length_drop, List.length_take]; rfl)) ?_; (with_reducible refine (impl_votes_isSwing.calls a0_0 _ _ l0_1 x17_2 x11_1 false _ ?side1 ?side2 A12.out).mono ?_); (case side1 => repeat (first | exact (Kd.C_below HR0_1.out HB.out) | (with_reducible refine Kd.C_alloc ?_ _) | (with_reducible refine Kd.C_drewN ?_ _) | (with_reducible refine Kd.C_drew ?_))); (case side2 => exact HC0_1.out); rintro e w22 ⟨rfl, hb⟩; refine ⟨_, rfl, ?_⟩; have n0_ := Aside0.mk (Kd.R_below (by (with_reducible repeat (first | apply Kd.R_alloc | apply Kd.R_drewN | apply Kd.R_drew)); exact HO_3.out) hb); have n1_ := Aside0.mk (blk_below (g := gb668) (o := .cells #[.int .i64 a0_0, .slice A0_1 l0_1.length c0_1] 68 (0, 0)) (by (with_reducible repeat (first | refine blk_drewN ?_ _ | refine blk_drew ?_ | refine blk_alloc ?_ _)); exact BK668.out) hb); have n2_ := Aside0.mk (below_step (by repeat (first | (with_reducible first | exact HB.out | apply below_alloc | apply pw_below_drewN | apply below_drew1 | refine below_set ?_ GE668.out) | exact HB.out)) hb); clear HO_3; clear BK668; clear HB; have HO_3 := n0_; have BK668 := n1_; have HB := n2_; clear n0_ n1_ n2_; (try clear hb); (try clear hb2); (try clear hk); (try clear hi)))
          (try simp only [← hl3_2])
          go_roundg k2
          case measure => have := HK1.out; have := HK2.out; omega
          case rel => exact ⟨(x3_2), (wrap64 (x17_2 + 1)), (by first | rfl | (simp; done) | (simp [*]; done)), H', ⟨by have := HK1.out; have := HK2.out; omega⟩, ⟨by (try simp only [hl3_1]); (try simp only [hl3_2]); (with_reducible repeat (first | apply Kd.R_alloc | apply Kd.R_drewN | apply Kd.R_drew)); exact HO_3.out⟩, ⟨by (try simp only [hl3_1]); (try simp only [hl3_2]); (with_reducible repeat (first | refine blk_drewN ?_ _ | refine blk_drew ?_ | refine blk_alloc ?_ _)); exact BK668.out⟩, ⟨by repeat (first | (with_reducible first | exact HB.out | apply below_alloc | apply pw_below_drewN | apply below_drew1 | refine below_set ?_ GE668.out) | exact HB.out)⟩⟩
        ·rw [if_neg c11] at H
         have c11b0 : decide (x17_2 < (l0_1.length : Int)) = false := decide_eq_false c11
         clear c11
         have H' := Aside0.mk H
         clear H
         go_wp2
         (try simp only [← hl3_1, ← hl3_2])
         go_roundg k2
         case measure => have := HK1.out; have := HK2.out; omega
         case rel => exact ⟨(x3_2), (wrap64 (x11_1 + 1)), (by first | rfl | (simp; done) | (simp [*]; done)), H', ⟨by have := HK1.out; have := HK2.out; omega⟩, ⟨by (try simp only [hl3_1]); (try simp only [hl3_2]); (with_reducible repeat (first | apply Kd.R_alloc | apply Kd.R_drewN | apply Kd.R_drew)); exact HO_3.out⟩, ⟨by (try simp only [hl3_1]); (try simp only [hl3_2]); (with_reducible repeat (first | refine blk_drewN ?_ _ | refine blk_drew ?_ | refine blk_alloc ?_ _)); exact BK668.out⟩, ⟨by repeat (first | (with_reducible first | exact HB.out | apply below_alloc | apply pw_below_drewN | apply below_drew1 | refine below_set ?_ GE668.out) | exact HB.out)⟩⟩
     ·rw [if_neg c9] at H
      have c9b0 : decide (x11_1 < (y669.length : Int)) = false := decide_eq_false c9
      have c9b0x := c9b0
      rw [hl3_1] at c9b0x
      clear c9
      obtain rfl := Option.some.inj H
      go_wp2
      go_ret
      exact ⟨_, by first | rfl | (simp [errW_none, errW_some] <;> rfl) | (simp [*, errW_none, errW_some] <;> rfl), by (with_reducible repeat (first | apply Kd.R_alloc | apply Kd.R_drewN | apply Kd.R_drew)); exact HO_3.out, by repeat (first | (with_reducible first | exact HB.out | apply below_alloc | apply pw_below_drewN | apply below_drew1 | refine below_set ?_ GE668.out) | exact HB.out)⟩
  ·rw [if_neg c3] at H
   exact absurd H (by simp)
 ·rw [if_neg c2] at H
  exact absurd H (by simp)
end Go.Proofs.YtnncjnjfdhbddaaGreat.Z
namespace Go.Proofs.YtnncjnjfdhbddaaGreat.Z
open Go.RowKit Go.Proofs.YtnncjnjfdhbddaaGreatW.PrintWords Go.Proofs.YtnncjnjfdhbddaaGreatW.PrintLast Go.Proofs.YtnncjnjfdhbddaaGreatW.PrintMore
attribute [local go_sem] max2_int min2_int max_two min_two max_three min_three max_four min_four
set_option linter.unusedVariables false
set_option linter.unusedSimpArgs false
def impl_votes_isProper.l0 : Nat → List Bool → Int → Int → Int → List Bool → Option (Bool)
 | 0, _, _, _, _, _ => none
 | k + 1, x6, x7, x8, x676000, x676001 => if x8 < x7 then (if 0 ≤ x8 then (if x8 < (x6.length : Int) then (if rdOf false x6 x8 = true then ((impl_votes_all.f x676000 x676001).bind fun t677 => (if 0 ≤ (Go.bits .andNot .i64 t677 x8) then (if (Go.bits .andNot .i64 t677 x8) < (x676001.length : Int) then (if rdOf false x676001 (Go.bits .andNot .i64 t677 x8) = true then (some false) else (impl_votes_isProper.l0 k x6 x7 (wrap64 (x8 + 1)) x676000 x676001)) else (none)) else (none))) else (impl_votes_isProper.l0 k x6 x7 (wrap64 (x8 + 1)) x676000 x676001)) else (none)) else (none)) else (some true)
def impl_votes_isProper.f (k : Nat) (a0_0 : Int) (l0_1 : List Bool) : Option (Bool) := impl_votes_isProper.l0 k l0_1 (l0_1.length : Int) 0 a0_0 l0_1
def impl_votes_isProper.T4 : Bool × List (List Nat × List Nat) := (true, [([], []), ([0], [0]), ([1], [1]), ([2, 1], [1, 2]), ([1], [1]), ([4, 1, 1], [1, 4]), ([1], [1]), ([5, 6, 1], [1, 5, 6]), ([3, 7, 1], [1, 3, 7]), ([8, 1], [1, 8]), ([1, 9], [1, 9])])
def impl_votes_isProper.B4 : List Nat := [0, 1, 3, 7, 3, 19, 3, 115, 255, 511, 1023]
theorem impl_votes_isProper.tab4 : rtab .any (opsOf Tryz.f134 4) = impl_votes_isProper.T4 := by kernel_rfl
theorem impl_votes_isProper.bits4 : waitsOk impl_votes_isProper.T4.2 impl_votes_isProper.B4 = true := by kernel_rfl
set_option maxHeartbeats 8000000 in
set_option maxRecDepth 100000 in
theorem impl_votes_isProper.calls (k : Nat) (a0_0 : Int) (A0_1 : Option Addr) (c0_1 : Nat) (l0_1 : List Bool) (r : Bool) (w : World) (hr0_1 : Kd.C Kd.bool w A0_1 l0_1.length l0_1) (hc0_1 : l0_1.length ≤ c0_1) (h : impl_votes_isProper.f k a0_0 l0_1 = some r) :
  Calls Tryz.prog 134 #[.agg #[.int .i64 a0_0, .slice A0_1 l0_1.length c0_1]] w fun e w' => e = .returned (.bool r) ∧ Below w.heap.size w w' := by
 have hu68 := Tryz.underlying68
 have HR0_1 := Aside0.mk hr0_1
 have HC0_1 := Aside0.mk hc0_1
 clear hr0_1 hc0_1
 have HB := Aside0.mk (Below.refl w.heap.size w)
 have H : (impl_votes_isProper.l0 k l0_1 (l0_1.length : Int) 0 a0_0 l0_1) = some r := h
 clear h
 have H' := Aside0.mk H
 clear H
 go_enter Tryz.func134, Tryz.ntmps134
 go_wp2_with (first | ((with_reducible refine gate_dst (N := 1) rfl ?_); refine box_event ?hg (N := 1) ?hd (cs := #[.int .i64 a0_0, .slice A0_1 l0_1.length c0_1]) (t := 68) ?hr ?_; (case hd => rfl); (case hg => rfl); (case hr => first | (go_simp; done) | (go_simp; rfl)); intro gb675 hg w2 hbox hb; have n0_ := Aside0.mk (below_step (by repeat (first | (with_reducible first | exact HB.out | apply below_alloc | apply pw_below_drewN | apply below_drew1) | exact HB.out)) hb); have n1_ := Aside0.mk (hbox); have n2_ := Aside0.mk ((by rw [hg]; exact (below_size (by repeat (first | (with_reducible first | exact HB.out | apply below_alloc | apply pw_below_drewN | apply below_drew1) | exact HB.out))) : w.heap.size ≤ gb675)); have n3_ := Aside0.mk ((by rw [hg]; exact (below_size (by repeat (first | (with_reducible first | exact HB.out | apply below_alloc | apply pw_below_drewN | apply below_drew1) | exact HB.out))) : w.heap.size ≤ gb675)); clear HB; have HB := n0_; have BK675 := n1_; have GW675 := n2_; have GE675 := n3_; clear n0_ n1_ n2_ n3_; clear hb hbox hg; have hcz3_0 : w2.cell? ⟨gb675, 0, none⟩ = some (.int .i64 a0_0) := (blk_cell BK675.out 0).trans rfl; have hcz3_1 : w2.cell? ⟨gb675, 1, none⟩ = some (.slice A0_1 l0_1.length c0_1) := (blk_cell BK675.out 1).trans rfl; have hfz3_0 := blk_frozen BK675.out 0; have hfz3_1 := blk_frozen BK675.out 1))
 go_loopg [8] k (fun kq v8 w' => ∃ (x8_1 : Int), v8 = .int .i64 x8_1 ∧ Aside0 (impl_votes_isProper.l0 kq l0_1 (l0_1.length : Int) x8_1 a0_0 l0_1 = some r) ∧ Aside0 (kq ≤ k) ∧ Aside0 (w'.heap[gb675]? = some (.cells #[.int .i64 a0_0, (.slice A0_1 l0_1.length c0_1)] 68 (0, 0))) ∧ Aside0 (Below w.heap.size w w'))
 case atStart => exact ⟨(0), (by first | rfl | (simp; done) | (simp [*]; done)), H', ⟨Nat.le_refl _⟩, ⟨by (with_reducible repeat (first | refine blk_drewN ?_ _ | refine blk_drew ?_ | refine blk_alloc ?_ _)); exact BK675.out⟩, ⟨by repeat (first | (with_reducible first | exact HB.out | apply below_alloc | apply pw_below_drewN | apply below_drew1 | refine below_set ?_ GE675.out) | exact HB.out)⟩⟩
 case round =>
  clear H'
  try clear c1
  try clear p2
  try clear hcz3_0
  try clear hcz3_1
  try clear hfz3_0
  try clear hfz3_1
  obtain ⟨x8_1, rfl, HA, HK1, BK675, HB⟩ := hrel
  cases gk with
  | zero => exact absurd HA.out (by simp [impl_votes_isProper.l0])
  | succ k1 =>
   have H := HA.out
   clear HA
   simp only [impl_votes_isProper.l0] at H
   by_cases c4 : x8_1 < (l0_1.length : Int)
   ·rw [if_pos c4] at H
    have c4b0 : decide (x8_1 < (l0_1.length : Int)) = true := decide_eq_true c4
    clear c4
    by_cases c5 : 0 ≤ x8_1
    ·rw [if_pos c5] at H
     have c5b0 : decide (0 ≤ x8_1) = true := decide_eq_true c5
     clear c5
     by_cases c6 : x8_1 < (l0_1.length : Int)
     ·rw [if_pos c6] at H
      have c6b0 : decide (x8_1 < (l0_1.length : Int)) = true := decide_eq_true c6
      clear c6
      obtain ⟨bq7, hbq7⟩ : ∃ b_ : Bool, b_ = (rdOf false l0_1 x8_1) := ⟨_, rfl⟩
      replace H : (if bq7 = true then ((impl_votes_all.f a0_0 l0_1).bind fun t677 => (if 0 ≤ (Go.bits .andNot .i64 t677 x8_1) then (if (Go.bits .andNot .i64 t677 x8_1) < (l0_1.length : Int) then (if rdOf false l0_1 (Go.bits .andNot .i64 t677 x8_1) = true then (some false) else (impl_votes_isProper.l0 k1 l0_1 (l0_1.length : Int) (wrap64 (x8_1 + 1)) a0_0 l0_1)) else (none)) else (none))) else (impl_votes_isProper.l0 k1 l0_1 (l0_1.length : Int) (wrap64 (x8_1 + 1)) a0_0 l0_1)) = some r := by rw [← hbq7] at H; exact H
      have Nbq7 := Aside0.mk hbq7
      clear hbq7
      by_cases c8 : bq7 = true
      ·subst c8
       have H1 : ((impl_votes_all.f a0_0 l0_1).bind fun t677 => (if 0 ≤ (Go.bits .andNot .i64 t677 x8_1) then (if (Go.bits .andNot .i64 t677 x8_1) < (l0_1.length : Int) then (if rdOf false l0_1 (Go.bits .andNot .i64 t677 x8_1) = true then (some false) else (impl_votes_isProper.l0 k1 l0_1 (l0_1.length : Int) (wrap64 (x8_1 + 1)) a0_0 l0_1)) else (none)) else (none))) = some r := by rw [if_pos rfl] at H; exact H
       clear H
       have H := H1
       clear H1
       replace H := Option.bind_eq_some_iff.mp H
       obtain ⟨t677, A90, H⟩ := H
       replace H : (if 0 ≤ (Go.bits .andNot .i64 t677 x8_1) then (if (Go.bits .andNot .i64 t677 x8_1) < (l0_1.length : Int) then (if rdOf false l0_1 (Go.bits .andNot .i64 t677 x8_1) = true then (some false) else (impl_votes_isProper.l0 k1 l0_1 (l0_1.length : Int) (wrap64 (x8_1 + 1)) a0_0 l0_1)) else (none)) else (none)) = some r := H
       have A9 := Aside0.mk A90
       clear A90
       by_cases c10 : 0 ≤ (Go.bits .andNot .i64 t677 x8_1)
       ·rw [if_pos c10] at H
        have c10b0 : decide (0 ≤ (Go.bits .andNot .i64 t677 x8_1)) = true := decide_eq_true c10
        clear c10
        by_cases c11 : (Go.bits .andNot .i64 t677 x8_1) < (l0_1.length : Int)
        ·rw [if_pos c11] at H
         have c11b0 : decide ((Go.bits .andNot .i64 t677 x8_1) < (l0_1.length : Int)) = true := decide_eq_true c11
         clear c11
         obtain ⟨bq12, hbq12⟩ : ∃ b_ : Bool, b_ = (rdOf false l0_1 (Go.bits .andNot .i64 t677 x8_1)) := ⟨_, rfl⟩
         replace H : (if bq12 = true then (some false) else (impl_votes_isProper.l0 k1 l0_1 (l0_1.length : Int) (wrap64 (x8_1 + 1)) a0_0 l0_1)) = some r := by rw [← hbq12] at H; exact H
         have Nbq12 := Aside0.mk hbq12
         clear hbq12
         by_cases c13 : bq12 = true
         ·subst c13
          have H1 : (some false) = some r := by rw [if_pos rfl] at H; exact H
          clear H
          have H := H1
          clear H1
          obtain rfl := Option.some.inj H
          have p676 : 0 ≤ (x8_1 : Int) := of_decide_eq_true (by first | (with_reducible assumption) | assumption)
          have q676 : x8_1 < (l0_1.length : Int) := of_decide_eq_true (by first | (with_reducible assumption) | assumption)
          obtain ⟨ad676, e676, hx676_0⟩ := Kd.at_bool HR0_1.out x8_1 p676 q676
          (try rw [← Nbq7.out] at hx676_0)
          (try rw [← Nbq12.out] at hx676_0)
          cases e676
          replace hx676_0 := (HB.out.cell (World.block_lt_of_cell? w _ hx676_0)).trans hx676_0
          replace p676 := eq_true p676
          replace q676 := eq_true q676
          try go_wp2
          have n0_ := Aside0.mk (blk_drew BK675.out)
          have n1_ := Aside0.mk (below_drew1 HB.out)
          clear BK675
          clear HB
          have BK675 := n0_
          have HB := n1_
          clear n0_ n1_
          have p678 : 0 ≤ ((Go.bits .andNot .i64 t677 x8_1) : Int) := of_decide_eq_true (by first | (with_reducible assumption) | assumption)
          have q678 : (Go.bits .andNot .i64 t677 x8_1) < (l0_1.length : Int) := of_decide_eq_true (by first | (with_reducible assumption) | assumption)
          obtain ⟨ad678, e678, hx678_0⟩ := Kd.at_bool HR0_1.out (Go.bits .andNot .i64 t677 x8_1) p678 q678
          have hw678_0 := hx678_0
          (try rw [← Nbq7.out] at hx678_0)
          (try rw [← Nbq7.out] at hw678_0)
          (try rw [← Nbq12.out] at hx678_0)
          (try rw [← Nbq12.out] at hw678_0)
          obtain rfl : ad676 = ad678 := (by injection e678)
          replace hx678_0 := (HB.out.cell (World.block_lt_of_cell? w _ hx678_0)).trans hx678_0
          replace p678 := eq_true p678
          replace q678 := eq_true q678
          refine start_ (n := 11) (S := fun w' => w'.cell? ⟨gb675, 0, none⟩ = some (.int .i64 a0_0) ∧ w'.cell? ⟨gb675, 1, none⟩ = some (.slice (some ad676) l0_1.length c0_1) ∧ w'.cell? (ad676.add ((Go.bits .andNot .i64 t677 x8_1)).toNat) = some (.bool true)) (ds := []) #[false, false, false, false, false, false, false, false, false, false, false] (by kernel_rfl) rfl rfl ⟨(blk_cell BK675.out 0).trans rfl, (blk_cell BK675.out 1).trans rfl, ((HB.out.cell (World.block_lt_of_cell? w _ hw678_0)).trans hw678_0)⟩ (fun hHeld => ?_); refine with_tabW impl_votes_isProper.tab4 impl_votes_isProper.bits4 (fun HT_ HW_ => ?_)
          generalize wr.drew = w14 at BK675 HB hx678_0 hHeld ⊢
          refine pure_ (i := 0) (N := some 13) (v := ?_) (a' := ?_) #[true, false, false, false, false, false, false, false, false, false, false] rfl rfl (any_of HT_.out (by kernel_rfl)) (fun _ _ _ h => h) (Or.inl ⟨by rfl, ?_⟩) ?_ ?_
          rotate_left
          ·intro w'
           go_simp
           with_reducible rfl
          rotate_left
          ·simp only [Act.put, List.setIfInBounds_toArray, List.set_cons_zero, List.set_cons_succ, i64_w, i32_w]
           rfl
          refine pure_ (i := 1) (N := some 14) (v := ?_) (a' := ?_) #[true, true, false, false, false, false, false, false, false, false, false] rfl rfl (any_of HT_.out (by kernel_rfl)) (fun _ _ _ h => h) (Or.inl ⟨by rfl, ?_⟩) ?_ ?_
          rotate_left
          ·intro w'
           go_simp
           with_reducible rfl
          rotate_left
          ·simp only [Act.put, List.setIfInBounds_toArray, List.set_cons_zero, List.set_cons_succ, i64_w, i32_w]
           rfl
          refine pure_ (i := 2) (N := some 15) (v := ?_) (a' := ?_) #[true, true, true, false, false, false, false, false, false, false, false] rfl rfl (any_of HT_.out (by kernel_rfl)) (fun _ _ _ h => h) (Or.inl ⟨by rfl, ?_⟩) ?_ ?_
          rotate_left
          ·intro w'
           go_simp
           with_reducible rfl
          rotate_left
          ·simp only [Act.put, List.setIfInBounds_toArray, List.set_cons_zero, List.set_cons_succ, i64_w, i32_w]
           rfl
          refine pure_ (i := 6) (N := some 19) (v := ?_) (a' := ?_) #[true, true, true, false, false, false, true, false, false, false, false] rfl rfl (any_of HT_.out (by kernel_rfl)) (fun _ _ _ h => h) (Or.inl ⟨by rfl, ?_⟩) ?_ ?_
          rotate_left
          ·intro w'
           go_simp
           with_reducible rfl
          rotate_left
          ·simp only [Act.put, List.setIfInBounds_toArray, List.set_cons_zero, List.set_cons_succ, i64_w, i32_w]
           rfl
          refine take_ (i := 3) (N := some 16) (v := ?_) (a' := ?_) #[true, true, true, true, false, false, true, false, false, false, false] rfl rfl (take_ofW HT_.out HW_.out (by kernel_rfl)) (fun _ _ _ h => h) (Or.inl ⟨by rfl, ?_⟩) hHeld ?_ ?_
          rotate_left
          ·rintro w' ⟨s0, s1, s2⟩
           go_simp
           with_reducible rfl
          rotate_left
          ·simp only [Act.put, List.setIfInBounds_toArray, List.set_cons_zero, List.set_cons_succ, i64_w, i32_w]
           rfl
          refine take_ (i := 4) (N := some 17) (v := ?_) (a' := ?_) #[true, true, true, true, true, false, true, false, false, false, false] rfl rfl (take_ofW HT_.out HW_.out (by kernel_rfl)) (fun _ _ _ h => h) (Or.inl ⟨by rfl, ?_⟩) hHeld ?_ ?_
          rotate_left
          ·rintro w' ⟨s0, s1, s2⟩
           go_simp
           with_reducible rfl
          rotate_left
          ·simp only [Act.put, List.setIfInBounds_toArray, List.set_cons_zero, List.set_cons_succ, i64_w, i32_w]
           rfl
          refine one_ (i := 5) (N := some 18) #[true, true, true, true, true, true, true, false, false, false, false] rfl rfl (one_of HT_.out (by kernel_rfl)) (by decide) (fun K hK => ?_)
          refine goes_ Tryz.func119 (by kernel_rfl) rfl #[.agg #[.int .i64 a0_0, .slice (some ad676) l0_1.length c0_1]] (by rfl) rfl rfl (by (try simp only [List.map_toArray, List.map_cons, List.map_nil]); first | done | rfl | (simp only [List.length_drop, List.length_take]; rfl)) ?_
          with_reducible refine (impl_votes_all.calls a0_0 _ _ l0_1 t677 _ ?side1 ?side2 A9.out).mono ?_
          (case side1 => repeat (first | exact (Kd.C_below HR0_1.out HB.out) | (with_reducible refine Kd.C_alloc ?_ _) | (with_reducible refine Kd.C_drewN ?_ _) | (with_reducible refine Kd.C_drew ?_)))
          (case side2 => exact HC0_1.out)
          rintro e w15 ⟨rfl, hb⟩
          refine ⟨_, rfl, ?_⟩
          have n0_ := Aside0.mk (blk_below (g := gb675) (o := .cells #[.int .i64 a0_0, .slice (some ad676) l0_1.length c0_1] 68 (0, 0)) (by (with_reducible repeat (first | refine blk_drewN ?_ _ | refine blk_drew ?_ | refine blk_alloc ?_ _)); exact BK675.out) hb)
          have n1_ := Aside0.mk (below_step (by repeat (first | (with_reducible first | exact HB.out | apply below_alloc | apply pw_below_drewN | apply below_drew1 | refine below_set ?_ GE675.out) | exact HB.out)) hb)
          clear BK675
          clear HB
          have BK675 := n0_
          have HB := n1_
          clear n0_ n1_
          (try clear hb)
          (try clear hb2)
          (try clear hk)
          (try clear hi)
          refine hK.out _ _ ⟨(blk_cell BK675.out 0).trans rfl, (blk_cell BK675.out 1).trans rfl, ((HB.out.cell (World.block_lt_of_cell? w _ hw678_0)).trans hw678_0)⟩ (fun hHeld => ?_)
          clear hK K
          refine norm_ (a' := ?_) ?_ ?_
          rotate_left
          ·show Act.put _ (some 18) _ = _
           simp only [Act.put, List.setIfInBounds_toArray, List.set_cons_zero, List.set_cons_succ, i64_w, i32_w]
           rfl
          refine pure_ (i := 7) (N := some 20) (v := ?_) (a' := ?_) #[true, true, true, true, true, true, true, true, false, false, false] rfl rfl (any_of HT_.out (by kernel_rfl)) (fun _ _ _ h => h) (Or.inl ⟨by rfl, ?_⟩) ?_ ?_
          rotate_left
          ·intro w'
           go_simp
           with_reducible rfl
          rotate_left
          ·simp only [Act.put, List.setIfInBounds_toArray, List.set_cons_zero, List.set_cons_succ, i64_w, i32_w]
           rfl
          refine pure_ (i := 8) (N := some 21) (v := ?_) (a' := ?_) #[true, true, true, true, true, true, true, true, true, false, false] rfl rfl (any_of HT_.out (by kernel_rfl)) (fun _ _ _ h => h) (Or.inl ⟨by rfl, ?_⟩) ?_ ?_
          rotate_left
          ·intro w'
           go_simp
           with_reducible rfl
          rotate_left
          ·simp only [Act.put, List.setIfInBounds_toArray, List.set_cons_zero, List.set_cons_succ, i64_w, i32_w]
           rfl
          refine take_ (i := 9) (N := some 22) (v := ?_) (a' := ?_) #[true, true, true, true, true, true, true, true, true, true, false] rfl rfl (take_ofW HT_.out HW_.out (by kernel_rfl)) (fun _ _ _ h => h) (Or.inl ⟨by rfl, ?_⟩) hHeld ?_ ?_
          rotate_left
          ·rintro w' ⟨s0, s1, s2⟩
           go_simp
           with_reducible rfl
          rotate_left
          ·simp only [Act.put, List.setIfInBounds_toArray, List.set_cons_zero, List.set_cons_succ, i64_w, i32_w]
           rfl
          refine pure_ (i := 10) (N := some 23) (v := ?_) (a' := ?_) #[true, true, true, true, true, true, true, true, true, true, true] rfl rfl (any_of HT_.out (by kernel_rfl)) (fun _ _ _ h => h) (Or.inl ⟨by rfl, ?_⟩) ?_ ?_
          rotate_left
          ·intro w'
           go_simp
           with_reducible rfl
          rotate_left
          ·simp only [Act.put, List.setIfInBounds_toArray, List.set_cons_zero, List.set_cons_succ, i64_w, i32_w]
           rfl
          refine done_ (done_of HT_.out (by kernel_rfl)) ?_
          try go_wp2
          go_ret
          exact ⟨by first | rfl | (simp [errW_none, errW_some] <;> rfl) | (simp [*, errW_none, errW_some] <;> rfl), by repeat (first | (with_reducible first | exact HB.out | apply below_alloc | apply pw_below_drewN | apply below_drew1 | refine below_set ?_ GE675.out) | exact HB.out)⟩
         ·replace c13 := Bool.eq_false_iff.mpr c13
          subst c13
          have H1 : (impl_votes_isProper.l0 k1 l0_1 (l0_1.length : Int) (wrap64 (x8_1 + 1)) a0_0 l0_1) = some r := by rw [if_neg (show ¬ (false = true) by decide)] at H; exact H
          clear H
          have H := H1
          clear H1
          have H' := Aside0.mk H
          clear H
          have p676 : 0 ≤ (x8_1 : Int) := of_decide_eq_true (by first | (with_reducible assumption) | assumption)
          have q676 : x8_1 < (l0_1.length : Int) := of_decide_eq_true (by first | (with_reducible assumption) | assumption)
          obtain ⟨ad676, e676, hx676_0⟩ := Kd.at_bool HR0_1.out x8_1 p676 q676
          (try rw [← Nbq7.out] at hx676_0)
          (try rw [← Nbq12.out] at hx676_0)
          cases e676
          replace hx676_0 := (HB.out.cell (World.block_lt_of_cell? w _ hx676_0)).trans hx676_0
          replace p676 := eq_true p676
          replace q676 := eq_true q676
          try go_wp2
          have n0_ := Aside0.mk (blk_drew BK675.out)
          have n1_ := Aside0.mk (below_drew1 HB.out)
          clear BK675
          clear HB
          have BK675 := n0_
          have HB := n1_
          clear n0_ n1_
          have p678 : 0 ≤ ((Go.bits .andNot .i64 t677 x8_1) : Int) := of_decide_eq_true (by first | (with_reducible assumption) | assumption)
          have q678 : (Go.bits .andNot .i64 t677 x8_1) < (l0_1.length : Int) := of_decide_eq_true (by first | (with_reducible assumption) | assumption)
          obtain ⟨ad678, e678, hx678_0⟩ := Kd.at_bool HR0_1.out (Go.bits .andNot .i64 t677 x8_1) p678 q678
          have hw678_0 := hx678_0
          (try rw [← Nbq7.out] at hx678_0)
          (try rw [← Nbq7.out] at hw678_0)
          (try rw [← Nbq12.out] at hx678_0)
          (try rw [← Nbq12.out] at hw678_0)
          obtain rfl : ad676 = ad678 := (by injection e678)
          replace hx678_0 := (HB.out.cell (World.block_lt_of_cell? w _ hx678_0)).trans hx678_0
          replace p678 := eq_true p678
          replace q678 := eq_true q678
          refine start_ (n := 11) (S := fun w' => w'.cell? ⟨gb675, 0, none⟩ = some (.int .i64 a0_0) ∧ w'.cell? ⟨gb675, 1, none⟩ = some (.slice (some ad676) l0_1.length c0_1) ∧ w'.cell? (ad676.add ((Go.bits .andNot .i64 t677 x8_1)).toNat) = some (.bool false)) (ds := []) #[false, false, false, false, false, false, false, false, false, false, false] (by kernel_rfl) rfl rfl ⟨(blk_cell BK675.out 0).trans rfl, (blk_cell BK675.out 1).trans rfl, ((HB.out.cell (World.block_lt_of_cell? w _ hw678_0)).trans hw678_0)⟩ (fun hHeld => ?_); refine with_tabW impl_votes_isProper.tab4 impl_votes_isProper.bits4 (fun HT_ HW_ => ?_)
          generalize wr.drew = w16 at BK675 HB hx678_0 hHeld ⊢
          refine pure_ (i := 0) (N := some 13) (v := ?_) (a' := ?_) #[true, false, false, false, false, false, false, false, false, false, false] rfl rfl (any_of HT_.out (by kernel_rfl)) (fun _ _ _ h => h) (Or.inl ⟨by rfl, ?_⟩) ?_ ?_
          rotate_left
          ·intro w'
           go_simp
           with_reducible rfl
          rotate_left
          ·simp only [Act.put, List.setIfInBounds_toArray, List.set_cons_zero, List.set_cons_succ, i64_w, i32_w]
           rfl
          refine pure_ (i := 1) (N := some 14) (v := ?_) (a' := ?_) #[true, true, false, false, false, false, false, false, false, false, false] rfl rfl (any_of HT_.out (by kernel_rfl)) (fun _ _ _ h => h) (Or.inl ⟨by rfl, ?_⟩) ?_ ?_
          rotate_left
          ·intro w'
           go_simp
           with_reducible rfl
          rotate_left
          ·simp only [Act.put, List.setIfInBounds_toArray, List.set_cons_zero, List.set_cons_succ, i64_w, i32_w]
           rfl
          refine pure_ (i := 2) (N := some 15) (v := ?_) (a' := ?_) #[true, true, true, false, false, false, false, false, false, false, false] rfl rfl (any_of HT_.out (by kernel_rfl)) (fun _ _ _ h => h) (Or.inl ⟨by rfl, ?_⟩) ?_ ?_
          rotate_left
          ·intro w'
           go_simp
           with_reducible rfl
          rotate_left
          ·simp only [Act.put, List.setIfInBounds_toArray, List.set_cons_zero, List.set_cons_succ, i64_w, i32_w]
           rfl
          refine pure_ (i := 6) (N := some 19) (v := ?_) (a' := ?_) #[true, true, true, false, false, false, true, false, false, false, false] rfl rfl (any_of HT_.out (by kernel_rfl)) (fun _ _ _ h => h) (Or.inl ⟨by rfl, ?_⟩) ?_ ?_
          rotate_left
          ·intro w'
           go_simp
           with_reducible rfl
          rotate_left
          ·simp only [Act.put, List.setIfInBounds_toArray, List.set_cons_zero, List.set_cons_succ, i64_w, i32_w]
           rfl
          refine take_ (i := 3) (N := some 16) (v := ?_) (a' := ?_) #[true, true, true, true, false, false, true, false, false, false, false] rfl rfl (take_ofW HT_.out HW_.out (by kernel_rfl)) (fun _ _ _ h => h) (Or.inl ⟨by rfl, ?_⟩) hHeld ?_ ?_
          rotate_left
          ·rintro w' ⟨s0, s1, s2⟩
           go_simp
           with_reducible rfl
          rotate_left
          ·simp only [Act.put, List.setIfInBounds_toArray, List.set_cons_zero, List.set_cons_succ, i64_w, i32_w]
           rfl
          refine take_ (i := 4) (N := some 17) (v := ?_) (a' := ?_) #[true, true, true, true, true, false, true, false, false, false, false] rfl rfl (take_ofW HT_.out HW_.out (by kernel_rfl)) (fun _ _ _ h => h) (Or.inl ⟨by rfl, ?_⟩) hHeld ?_ ?_
          rotate_left
          ·rintro w' ⟨s0, s1, s2⟩
           go_simp
           with_reducible rfl
          rotate_left
          ·simp only [Act.put, List.setIfInBounds_toArray, List.set_cons_zero, List.set_cons_succ, i64_w, i32_w]
           rfl
          refine one_ (i := 5) (N := some 18) #[true, true, true, true, true, true, true, false, false, false, false] rfl rfl (one_of HT_.out (by kernel_rfl)) (by decide) (fun K hK => ?_)
          refine goes_ Tryz.func119 (by kernel_rfl) rfl #[.agg #[.int .i64 a0_0, .slice (some ad676) l0_1.length c0_1]] (by rfl) rfl rfl (by (try simp only [List.map_toArray, List.map_cons, List.map_nil]); first | done | rfl | (simp only [List.length_drop, List.length_take]; rfl)) ?_
          with_reducible refine (impl_votes_all.calls a0_0 _ _ l0_1 t677 _ ?side1 ?side2 A9.out).mono ?_
          (case side1 => repeat (first | exact (Kd.C_below HR0_1.out HB.out) | (with_reducible refine Kd.C_alloc ?_ _) | (with_reducible refine Kd.C_drewN ?_ _) | (with_reducible refine Kd.C_drew ?_)))
          (case side2 => exact HC0_1.out)
          rintro e w17 ⟨rfl, hb⟩
          refine ⟨_, rfl, ?_⟩
          have n0_ := Aside0.mk (blk_below (g := gb675) (o := .cells #[.int .i64 a0_0, .slice (some ad676) l0_1.length c0_1] 68 (0, 0)) (by (with_reducible repeat (first | refine blk_drewN ?_ _ | refine blk_drew ?_ | refine blk_alloc ?_ _)); exact BK675.out) hb)
          have n1_ := Aside0.mk (below_step (by repeat (first | (with_reducible first | exact HB.out | apply below_alloc | apply pw_below_drewN | apply below_drew1 | refine below_set ?_ GE675.out) | exact HB.out)) hb)
          clear BK675
          clear HB
          have BK675 := n0_
          have HB := n1_
          clear n0_ n1_
          (try clear hb)
          (try clear hb2)
          (try clear hk)
          (try clear hi)
          refine hK.out _ _ ⟨(blk_cell BK675.out 0).trans rfl, (blk_cell BK675.out 1).trans rfl, ((HB.out.cell (World.block_lt_of_cell? w _ hw678_0)).trans hw678_0)⟩ (fun hHeld => ?_)
          clear hK K
          refine norm_ (a' := ?_) ?_ ?_
          rotate_left
          ·show Act.put _ (some 18) _ = _
           simp only [Act.put, List.setIfInBounds_toArray, List.set_cons_zero, List.set_cons_succ, i64_w, i32_w]
           rfl
          refine pure_ (i := 7) (N := some 20) (v := ?_) (a' := ?_) #[true, true, true, true, true, true, true, true, false, false, false] rfl rfl (any_of HT_.out (by kernel_rfl)) (fun _ _ _ h => h) (Or.inl ⟨by rfl, ?_⟩) ?_ ?_
          rotate_left
          ·intro w'
           go_simp
           with_reducible rfl
          rotate_left
          ·simp only [Act.put, List.setIfInBounds_toArray, List.set_cons_zero, List.set_cons_succ, i64_w, i32_w]
           rfl
          refine pure_ (i := 8) (N := some 21) (v := ?_) (a' := ?_) #[true, true, true, true, true, true, true, true, true, false, false] rfl rfl (any_of HT_.out (by kernel_rfl)) (fun _ _ _ h => h) (Or.inl ⟨by rfl, ?_⟩) ?_ ?_
          rotate_left
          ·intro w'
           go_simp
           with_reducible rfl
          rotate_left
          ·simp only [Act.put, List.setIfInBounds_toArray, List.set_cons_zero, List.set_cons_succ, i64_w, i32_w]
           rfl
          refine take_ (i := 9) (N := some 22) (v := ?_) (a' := ?_) #[true, true, true, true, true, true, true, true, true, true, false] rfl rfl (take_ofW HT_.out HW_.out (by kernel_rfl)) (fun _ _ _ h => h) (Or.inl ⟨by rfl, ?_⟩) hHeld ?_ ?_
          rotate_left
          ·rintro w' ⟨s0, s1, s2⟩
           go_simp
           with_reducible rfl
          rotate_left
          ·simp only [Act.put, List.setIfInBounds_toArray, List.set_cons_zero, List.set_cons_succ, i64_w, i32_w]
           rfl
          refine pure_ (i := 10) (N := some 23) (v := ?_) (a' := ?_) #[true, true, true, true, true, true, true, true, true, true, true] rfl rfl (any_of HT_.out (by kernel_rfl)) (fun _ _ _ h => h) (Or.inl ⟨by rfl, ?_⟩) ?_ ?_
          rotate_left
          ·intro w'
           go_simp
           with_reducible rfl
          rotate_left
          ·simp only [Act.put, List.setIfInBounds_toArray, List.set_cons_zero, List.set_cons_succ, i64_w, i32_w]
           rfl
          refine done_ (done_of HT_.out (by kernel_rfl)) ?_
          try go_wp2
          go_roundg k1
          case measure => have := HK1.out; omega
          case rel => exact ⟨(wrap64 (x8_1 + 1)), (by first | rfl | (simp; done) | (simp [*]; done)), H', ⟨by have := HK1.out; omega⟩, ⟨by (with_reducible repeat (first | refine blk_drewN ?_ _ | refine blk_drew ?_ | refine blk_alloc ?_ _)); exact BK675.out⟩, ⟨by repeat (first | (with_reducible first | exact HB.out | apply below_alloc | apply pw_below_drewN | apply below_drew1 | refine below_set ?_ GE675.out) | exact HB.out)⟩⟩
        ·rw [if_neg c11] at H
         exact absurd H (by simp)
       ·rw [if_neg c10] at H
        exact absurd H (by simp)
      ·replace c8 := Bool.eq_false_iff.mpr c8
       subst c8
       have H1 : (impl_votes_isProper.l0 k1 l0_1 (l0_1.length : Int) (wrap64 (x8_1 + 1)) a0_0 l0_1) = some r := by rw [if_neg (show ¬ (false = true) by decide)] at H; exact H
       clear H
       have H := H1
       clear H1
       have H' := Aside0.mk H
       clear H
       have p676 : 0 ≤ (x8_1 : Int) := of_decide_eq_true (by first | (with_reducible assumption) | assumption)
       have q676 : x8_1 < (l0_1.length : Int) := of_decide_eq_true (by first | (with_reducible assumption) | assumption)
       obtain ⟨ad676, e676, hx676_0⟩ := Kd.at_bool HR0_1.out x8_1 p676 q676
       (try rw [← Nbq7.out] at hx676_0)
       cases e676
       replace hx676_0 := (HB.out.cell (World.block_lt_of_cell? w _ hx676_0)).trans hx676_0
       replace p676 := eq_true p676
       replace q676 := eq_true q676
       try go_wp2
       have n0_ := Aside0.mk (blk_drew BK675.out)
       have n1_ := Aside0.mk (below_drew1 HB.out)
       clear BK675
       clear HB
       have BK675 := n0_
       have HB := n1_
       clear n0_ n1_
       refine start_ (n := 11) (S := fun w' => True) (ds := []) #[false, false, false, false, false, false, false, false, false, false, false] (by kernel_rfl) rfl rfl trivial (fun hHeld => ?_); refine with_tabW impl_votes_isProper.tab4 impl_votes_isProper.bits4 (fun HT_ HW_ => ?_)
       generalize wr.drew = w18 at BK675 HB hHeld ⊢
       refine pure_ (i := 0) (N := some 13) (v := ?_) (a' := ?_) #[true, false, false, false, false, false, false, false, false, false, false] rfl rfl (any_of HT_.out (by kernel_rfl)) (fun _ _ _ h => h) (Or.inl ⟨by rfl, ?_⟩) ?_ ?_
       rotate_left
       ·intro w'
        go_simp
        with_reducible rfl
       rotate_left
       ·simp only [Act.put, List.setIfInBounds_toArray, List.set_cons_zero, List.set_cons_succ, i64_w, i32_w]
        rfl
       refine pure_ (i := 1) (N := some 14) (v := ?_) (a' := ?_) #[true, true, false, false, false, false, false, false, false, false, false] rfl rfl (any_of HT_.out (by kernel_rfl)) (fun _ _ _ h => h) (Or.inl ⟨by rfl, ?_⟩) ?_ ?_
       rotate_left
       ·intro w'
        go_simp
        with_reducible rfl
       rotate_left
       ·simp only [Act.put, List.setIfInBounds_toArray, List.set_cons_zero, List.set_cons_succ, i64_w, i32_w]
        rfl
       refine pure_ (i := 2) (N := some 15) (v := undef) (a' := ?_) #[true, true, true, false, false, false, false, false, false, false, false] rfl rfl (any_of HT_.out (by kernel_rfl)) (fun _ _ _ h => h) (Or.inr ⟨by rfl, rfl⟩) ?_ ?_
       rotate_left
       ·simp only [Act.put, List.setIfInBounds_toArray, List.set_cons_zero, List.set_cons_succ, i64_w, i32_w]
        rfl
       refine pure_ (i := 3) (N := some 16) (v := undef) (a' := ?_) #[true, true, true, true, false, false, false, false, false, false, false] rfl rfl (any_of HT_.out (by kernel_rfl)) (fun _ _ _ h => h) (Or.inr ⟨by rfl, rfl⟩) ?_ ?_
       rotate_left
       ·simp only [Act.put, List.setIfInBounds_toArray, List.set_cons_zero, List.set_cons_succ, i64_w, i32_w]
        rfl
       refine pure_ (i := 4) (N := some 17) (v := undef) (a' := ?_) #[true, true, true, true, true, false, false, false, false, false, false] rfl rfl (any_of HT_.out (by kernel_rfl)) (fun _ _ _ h => h) (Or.inr ⟨by rfl, rfl⟩) ?_ ?_
       rotate_left
       ·simp only [Act.put, List.setIfInBounds_toArray, List.set_cons_zero, List.set_cons_succ, i64_w, i32_w]
        rfl
       refine pure_ (i := 5) (N := some 18) (v := undef) (a' := ?_) #[true, true, true, true, true, true, false, false, false, false, false] rfl rfl (any_of HT_.out (by kernel_rfl)) (fun _ _ _ h => h) (Or.inr ⟨by rfl, rfl⟩) ?_ ?_
       rotate_left
       ·simp only [Act.put, List.setIfInBounds_toArray, List.set_cons_zero, List.set_cons_succ, i64_w, i32_w]
        rfl
       refine pure_ (i := 6) (N := some 19) (v := undef) (a' := ?_) #[true, true, true, true, true, true, true, false, false, false, false] rfl rfl (any_of HT_.out (by kernel_rfl)) (fun _ _ _ h => h) (Or.inr ⟨by rfl, rfl⟩) ?_ ?_
       rotate_left
       ·simp only [Act.put, List.setIfInBounds_toArray, List.set_cons_zero, List.set_cons_succ, i64_w, i32_w]
        rfl
       refine pure_ (i := 7) (N := some 20) (v := undef) (a' := ?_) #[true, true, true, true, true, true, true, true, false, false, false] rfl rfl (any_of HT_.out (by kernel_rfl)) (fun _ _ _ h => h) (Or.inr ⟨by rfl, rfl⟩) ?_ ?_
       rotate_left
       ·simp only [Act.put, List.setIfInBounds_toArray, List.set_cons_zero, List.set_cons_succ, i64_w, i32_w]
        rfl
       refine pure_ (i := 8) (N := some 21) (v := undef) (a' := ?_) #[true, true, true, true, true, true, true, true, true, false, false] rfl rfl (any_of HT_.out (by kernel_rfl)) (fun _ _ _ h => h) (Or.inr ⟨by rfl, rfl⟩) ?_ ?_
       rotate_left
       ·simp only [Act.put, List.setIfInBounds_toArray, List.set_cons_zero, List.set_cons_succ, i64_w, i32_w]
        rfl
       refine pure_ (i := 9) (N := some 22) (v := undef) (a' := ?_) #[true, true, true, true, true, true, true, true, true, true, false] rfl rfl (any_of HT_.out (by kernel_rfl)) (fun _ _ _ h => h) (Or.inr ⟨by rfl, rfl⟩) ?_ ?_
       rotate_left
       ·simp only [Act.put, List.setIfInBounds_toArray, List.set_cons_zero, List.set_cons_succ, i64_w, i32_w]
        rfl
       refine pure_ (i := 10) (N := some 23) (v := ?_) (a' := ?_) #[true, true, true, true, true, true, true, true, true, true, true] rfl rfl (any_of HT_.out (by kernel_rfl)) (fun _ _ _ h => h) (Or.inl ⟨by rfl, ?_⟩) ?_ ?_
       rotate_left
       ·intro w'
        go_simp
        with_reducible rfl
       rotate_left
       ·simp only [Act.put, List.setIfInBounds_toArray, List.set_cons_zero, List.set_cons_succ, i64_w, i32_w]
        rfl
       refine done_ (done_of HT_.out (by kernel_rfl)) ?_
       try go_wp2
       go_roundg k1
       case measure => have := HK1.out; omega
       case rel => exact ⟨(wrap64 (x8_1 + 1)), (by first | rfl | (simp; done) | (simp [*]; done)), H', ⟨by have := HK1.out; omega⟩, ⟨by (with_reducible repeat (first | refine blk_drewN ?_ _ | refine blk_drew ?_ | refine blk_alloc ?_ _)); exact BK675.out⟩, ⟨by repeat (first | (with_reducible first | exact HB.out | apply below_alloc | apply pw_below_drewN | apply below_drew1 | refine below_set ?_ GE675.out) | exact HB.out)⟩⟩
     ·rw [if_neg c6] at H
      exact absurd H (by simp)
    ·rw [if_neg c5] at H
     exact absurd H (by simp)
   ·rw [if_neg c4] at H
    have c4b0 : decide (x8_1 < (l0_1.length : Int)) = false := decide_eq_false c4
    clear c4
    obtain rfl := Option.some.inj H
    go_wp2
    go_ret
    exact ⟨by first | rfl | (simp [errW_none, errW_some] <;> rfl) | (simp [*, errW_none, errW_some] <;> rfl), by repeat (first | (with_reducible first | exact HB.out | apply below_alloc | apply pw_below_drewN | apply below_drew1 | refine below_set ?_ GE675.out) | exact HB.out)⟩
end Go.Proofs.YtnncjnjfdhbddaaGreat.Z
namespace Go.Proofs.YtnncjnjfdhbddaaGreat.Z
open Go.RowKit Go.Proofs.YtnncjnjfdhbddaaGreatW.PrintWords Go.Proofs.YtnncjnjfdhbddaaGreatW.PrintLast Go.Proofs.YtnncjnjfdhbddaaGreatW.PrintMore
attribute [local go_sem] max2_int min2_int max_two min_two max_three min_three max_four min_four
set_option linter.unusedVariables false
set_option linter.unusedSimpArgs false
def impl_votes_isStrong.l0 : Nat → List Bool → Int → Int → Int → List Bool → Option (Bool)
 | 0, _, _, _, _, _ => none
 | k + 1, x6, x7, x8, x680000, x680001 => if x8 < x7 then (if 0 ≤ x8 then (if x8 < (x6.length : Int) then (if rdOf false x6 x8 = true then (impl_votes_isStrong.l0 k x6 x7 (wrap64 (x8 + 1)) x680000 x680001) else ((impl_votes_all.f x680000 x680001).bind fun t681 => (if 0 ≤ (Go.bits .andNot .i64 t681 x8) then (if (Go.bits .andNot .i64 t681 x8) < (x680001.length : Int) then (if (rdOf false x680001 (Go.bits .andNot .i64 t681 x8) = true) then (impl_votes_isStrong.l0 k x6 x7 (wrap64 (x8 + 1)) x680000 x680001) else (some false)) else (none)) else (none)))) else (none)) else (none)) else (some true)
def impl_votes_isStrong.f (k : Nat) (a0_0 : Int) (l0_1 : List Bool) : Option (Bool) := impl_votes_isStrong.l0 k l0_1 (l0_1.length : Int) 0 a0_0 l0_1
def impl_votes_isStrong.T4 : Bool × List (List Nat × List Nat) := (true, [([], []), ([0], [0]), ([1], [1]), ([2], [2]), ([3, 2], [2, 3]), ([2], [2]), ([5, 2, 2], [2, 5]), ([2], [2]), ([6, 7, 2], [2, 6, 7]), ([4, 8, 2], [2, 4, 8]), ([9, 2], [2, 9]), ([10, 2], [2, 10]), ([2, 11], [2, 11])])
def impl_votes_isStrong.B4 : List Nat := [0, 1, 3, 7, 15, 7, 39, 7, 231, 511, 1023, 2047, 4095]
theorem impl_votes_isStrong.tab4 : rtab .any (opsOf Tryz.f135 4) = impl_votes_isStrong.T4 := by kernel_rfl
theorem impl_votes_isStrong.bits4 : waitsOk impl_votes_isStrong.T4.2 impl_votes_isStrong.B4 = true := by kernel_rfl
set_option maxHeartbeats 8000000 in
set_option maxRecDepth 100000 in
theorem impl_votes_isStrong.calls (k : Nat) (a0_0 : Int) (A0_1 : Option Addr) (c0_1 : Nat) (l0_1 : List Bool) (r : Bool) (w : World) (hr0_1 : Kd.C Kd.bool w A0_1 l0_1.length l0_1) (hc0_1 : l0_1.length ≤ c0_1) (h : impl_votes_isStrong.f k a0_0 l0_1 = some r) :
  Calls Tryz.prog 135 #[.agg #[.int .i64 a0_0, .slice A0_1 l0_1.length c0_1]] w fun e w' => e = .returned (.bool r) ∧ Below w.heap.size w w' := by
 have hu68 := Tryz.underlying68
 have HR0_1 := Aside0.mk hr0_1
 have HC0_1 := Aside0.mk hc0_1
 clear hr0_1 hc0_1
 have HB := Aside0.mk (Below.refl w.heap.size w)
 have H : (impl_votes_isStrong.l0 k l0_1 (l0_1.length : Int) 0 a0_0 l0_1) = some r := h
 clear h
 have H' := Aside0.mk H
 clear H
 go_enter Tryz.func135, Tryz.ntmps135
 go_wp2_with (first | ((with_reducible refine gate_dst (N := 1) rfl ?_); refine box_event ?hg (N := 1) ?hd (cs := #[.int .i64 a0_0, .slice A0_1 l0_1.length c0_1]) (t := 68) ?hr ?_; (case hd => rfl); (case hg => rfl); (case hr => first | (go_simp; done) | (go_simp; rfl)); intro gb679 hg w2 hbox hb; have n0_ := Aside0.mk (below_step (by repeat (first | (with_reducible first | exact HB.out | apply below_alloc | apply pw_below_drewN | apply below_drew1) | exact HB.out)) hb); have n1_ := Aside0.mk (hbox); have n2_ := Aside0.mk ((by rw [hg]; exact (below_size (by repeat (first | (with_reducible first | exact HB.out | apply below_alloc | apply pw_below_drewN | apply below_drew1) | exact HB.out))) : w.heap.size ≤ gb679)); have n3_ := Aside0.mk ((by rw [hg]; exact (below_size (by repeat (first | (with_reducible first | exact HB.out | apply below_alloc | apply pw_below_drewN | apply below_drew1) | exact HB.out))) : w.heap.size ≤ gb679)); clear HB; have HB := n0_; have BK679 := n1_; have GW679 := n2_; have GE679 := n3_; clear n0_ n1_ n2_ n3_; clear hb hbox hg; have hcz3_0 : w2.cell? ⟨gb679, 0, none⟩ = some (.int .i64 a0_0) := (blk_cell BK679.out 0).trans rfl; have hcz3_1 : w2.cell? ⟨gb679, 1, none⟩ = some (.slice A0_1 l0_1.length c0_1) := (blk_cell BK679.out 1).trans rfl; have hfz3_0 := blk_frozen BK679.out 0; have hfz3_1 := blk_frozen BK679.out 1))
 go_loopg [8] k (fun kq v8 w' => ∃ (x8_1 : Int), v8 = .int .i64 x8_1 ∧ Aside0 (impl_votes_isStrong.l0 kq l0_1 (l0_1.length : Int) x8_1 a0_0 l0_1 = some r) ∧ Aside0 (kq ≤ k) ∧ Aside0 (w'.heap[gb679]? = some (.cells #[.int .i64 a0_0, (.slice A0_1 l0_1.length c0_1)] 68 (0, 0))) ∧ Aside0 (Below w.heap.size w w'))
 case atStart => exact ⟨(0), (by first | rfl | (simp; done) | (simp [*]; done)), H', ⟨Nat.le_refl _⟩, ⟨by (with_reducible repeat (first | refine blk_drewN ?_ _ | refine blk_drew ?_ | refine blk_alloc ?_ _)); exact BK679.out⟩, ⟨by repeat (first | (with_reducible first | exact HB.out | apply below_alloc | apply pw_below_drewN | apply below_drew1 | refine below_set ?_ GE679.out) | exact HB.out)⟩⟩
 case round =>
  clear H'
  try clear c1
  try clear p2
  try clear hcz3_0
  try clear hcz3_1
  try clear hfz3_0
  try clear hfz3_1
  obtain ⟨x8_1, rfl, HA, HK1, BK679, HB⟩ := hrel
  cases gk with
  | zero => exact absurd HA.out (by simp [impl_votes_isStrong.l0])
  | succ k1 =>
   have H := HA.out
   clear HA
   simp only [impl_votes_isStrong.l0] at H
   by_cases c4 : x8_1 < (l0_1.length : Int)
   ·rw [if_pos c4] at H
    have c4b0 : decide (x8_1 < (l0_1.length : Int)) = true := decide_eq_true c4
    clear c4
    by_cases c5 : 0 ≤ x8_1
    ·rw [if_pos c5] at H
     have c5b0 : decide (0 ≤ x8_1) = true := decide_eq_true c5
     clear c5
     by_cases c6 : x8_1 < (l0_1.length : Int)
     ·rw [if_pos c6] at H
      have c6b0 : decide (x8_1 < (l0_1.length : Int)) = true := decide_eq_true c6
      clear c6
      obtain ⟨bq7, hbq7⟩ : ∃ b_ : Bool, b_ = (rdOf false l0_1 x8_1) := ⟨_, rfl⟩
      replace H : (if bq7 = true then (impl_votes_isStrong.l0 k1 l0_1 (l0_1.length : Int) (wrap64 (x8_1 + 1)) a0_0 l0_1) else ((impl_votes_all.f a0_0 l0_1).bind fun t681 => (if 0 ≤ (Go.bits .andNot .i64 t681 x8_1) then (if (Go.bits .andNot .i64 t681 x8_1) < (l0_1.length : Int) then (if (rdOf false l0_1 (Go.bits .andNot .i64 t681 x8_1) = true) then (impl_votes_isStrong.l0 k1 l0_1 (l0_1.length : Int) (wrap64 (x8_1 + 1)) a0_0 l0_1) else (some false)) else (none)) else (none)))) = some r := by rw [← hbq7] at H; exact H
      have Nbq7 := Aside0.mk hbq7
      clear hbq7
      by_cases c8 : bq7 = true
      ·subst c8
       have H1 : (impl_votes_isStrong.l0 k1 l0_1 (l0_1.length : Int) (wrap64 (x8_1 + 1)) a0_0 l0_1) = some r := by rw [if_pos rfl] at H; exact H
       clear H
       have H := H1
       clear H1
       have H' := Aside0.mk H
       clear H
       have p680 : 0 ≤ (x8_1 : Int) := of_decide_eq_true (by first | (with_reducible assumption) | assumption)
       have q680 : x8_1 < (l0_1.length : Int) := of_decide_eq_true (by first | (with_reducible assumption) | assumption)
       obtain ⟨ad680, e680, hx680_0⟩ := Kd.at_bool HR0_1.out x8_1 p680 q680
       (try rw [← Nbq7.out] at hx680_0)
       cases e680
       replace hx680_0 := (HB.out.cell (World.block_lt_of_cell? w _ hx680_0)).trans hx680_0
       replace p680 := eq_true p680
       replace q680 := eq_true q680
       try go_wp2
       have n0_ := Aside0.mk (blk_drew BK679.out)
       have n1_ := Aside0.mk (below_drew1 HB.out)
       clear BK679
       clear HB
       have BK679 := n0_
       have HB := n1_
       clear n0_ n1_
       refine start_ (n := 13) (S := fun w' => True) (ds := []) #[false, false, false, false, false, false, false, false, false, false, false, false, false] (by kernel_rfl) rfl rfl trivial (fun hHeld => ?_); refine with_tabW impl_votes_isStrong.tab4 impl_votes_isStrong.bits4 (fun HT_ HW_ => ?_)
       generalize wr.drew = w9 at BK679 HB hHeld ⊢
       refine pure_ (i := 0) (N := some 13) (v := ?_) (a' := ?_) #[true, false, false, false, false, false, false, false, false, false, false, false, false] rfl rfl (any_of HT_.out (by kernel_rfl)) (fun _ _ _ h => h) (Or.inl ⟨by rfl, ?_⟩) ?_ ?_
       rotate_left
       ·intro w'
        go_simp
        with_reducible rfl
       rotate_left
       ·simp only [Act.put, List.setIfInBounds_toArray, List.set_cons_zero, List.set_cons_succ, i64_w, i32_w]
        rfl
       refine pure_ (i := 1) (N := some 14) (v := ?_) (a' := ?_) #[true, true, false, false, false, false, false, false, false, false, false, false, false] rfl rfl (any_of HT_.out (by kernel_rfl)) (fun _ _ _ h => h) (Or.inl ⟨by rfl, ?_⟩) ?_ ?_
       rotate_left
       ·intro w'
        go_simp
        with_reducible rfl
       rotate_left
       ·simp only [Act.put, List.setIfInBounds_toArray, List.set_cons_zero, List.set_cons_succ, i64_w, i32_w]
        rfl
       refine pure_ (i := 2) (N := some 15) (v := ?_) (a' := ?_) #[true, true, true, false, false, false, false, false, false, false, false, false, false] rfl rfl (any_of HT_.out (by kernel_rfl)) (fun _ _ _ h => h) (Or.inl ⟨by rfl, ?_⟩) ?_ ?_
       rotate_left
       ·intro w'
        go_simp
        with_reducible rfl
       rotate_left
       ·simp only [Act.put, List.setIfInBounds_toArray, List.set_cons_zero, List.set_cons_succ, i64_w, i32_w]
        rfl
       refine pure_ (i := 3) (N := some 16) (v := undef) (a' := ?_) #[true, true, true, true, false, false, false, false, false, false, false, false, false] rfl rfl (any_of HT_.out (by kernel_rfl)) (fun _ _ _ h => h) (Or.inr ⟨by rfl, rfl⟩) ?_ ?_
       rotate_left
       ·simp only [Act.put, List.setIfInBounds_toArray, List.set_cons_zero, List.set_cons_succ, i64_w, i32_w]
        rfl
       refine pure_ (i := 4) (N := some 17) (v := undef) (a' := ?_) #[true, true, true, true, true, false, false, false, false, false, false, false, false] rfl rfl (any_of HT_.out (by kernel_rfl)) (fun _ _ _ h => h) (Or.inr ⟨by rfl, rfl⟩) ?_ ?_
       rotate_left
       ·simp only [Act.put, List.setIfInBounds_toArray, List.set_cons_zero, List.set_cons_succ, i64_w, i32_w]
        rfl
       refine pure_ (i := 5) (N := some 18) (v := undef) (a' := ?_) #[true, true, true, true, true, true, false, false, false, false, false, false, false] rfl rfl (any_of HT_.out (by kernel_rfl)) (fun _ _ _ h => h) (Or.inr ⟨by rfl, rfl⟩) ?_ ?_
       rotate_left
       ·simp only [Act.put, List.setIfInBounds_toArray, List.set_cons_zero, List.set_cons_succ, i64_w, i32_w]
        rfl
       refine pure_ (i := 6) (N := some 19) (v := undef) (a' := ?_) #[true, true, true, true, true, true, true, false, false, false, false, false, false] rfl rfl (any_of HT_.out (by kernel_rfl)) (fun _ _ _ h => h) (Or.inr ⟨by rfl, rfl⟩) ?_ ?_
       rotate_left
       ·simp only [Act.put, List.setIfInBounds_toArray, List.set_cons_zero, List.set_cons_succ, i64_w, i32_w]
        rfl
       refine pure_ (i := 7) (N := some 20) (v := undef) (a' := ?_) #[true, true, true, true, true, true, true, true, false, false, false, false, false] rfl rfl (any_of HT_.out (by kernel_rfl)) (fun _ _ _ h => h) (Or.inr ⟨by rfl, rfl⟩) ?_ ?_
       rotate_left
       ·simp only [Act.put, List.setIfInBounds_toArray, List.set_cons_zero, List.set_cons_succ, i64_w, i32_w]
        rfl
       refine pure_ (i := 8) (N := some 21) (v := undef) (a' := ?_) #[true, true, true, true, true, true, true, true, true, false, false, false, false] rfl rfl (any_of HT_.out (by kernel_rfl)) (fun _ _ _ h => h) (Or.inr ⟨by rfl, rfl⟩) ?_ ?_
       rotate_left
       ·simp only [Act.put, List.setIfInBounds_toArray, List.set_cons_zero, List.set_cons_succ, i64_w, i32_w]
        rfl
       refine pure_ (i := 9) (N := some 22) (v := undef) (a' := ?_) #[true, true, true, true, true, true, true, true, true, true, false, false, false] rfl rfl (any_of HT_.out (by kernel_rfl)) (fun _ _ _ h => h) (Or.inr ⟨by rfl, rfl⟩) ?_ ?_
       rotate_left
       ·simp only [Act.put, List.setIfInBounds_toArray, List.set_cons_zero, List.set_cons_succ, i64_w, i32_w]
        rfl
       refine pure_ (i := 10) (N := some 23) (v := undef) (a' := ?_) #[true, true, true, true, true, true, true, true, true, true, true, false, false] rfl rfl (any_of HT_.out (by kernel_rfl)) (fun _ _ _ h => h) (Or.inr ⟨by rfl, rfl⟩) ?_ ?_
       rotate_left
       ·simp only [Act.put, List.setIfInBounds_toArray, List.set_cons_zero, List.set_cons_succ, i64_w, i32_w]
        rfl
       refine pure_ (i := 11) (N := some 24) (v := undef) (a' := ?_) #[true, true, true, true, true, true, true, true, true, true, true, true, false] rfl rfl (any_of HT_.out (by kernel_rfl)) (fun _ _ _ h => h) (Or.inr ⟨by rfl, rfl⟩) ?_ ?_
       rotate_left
       ·simp only [Act.put, List.setIfInBounds_toArray, List.set_cons_zero, List.set_cons_succ, i64_w, i32_w]
        rfl
       refine pure_ (i := 12) (N := some 25) (v := ?_) (a' := ?_) #[true, true, true, true, true, true, true, true, true, true, true, true, true] rfl rfl (any_of HT_.out (by kernel_rfl)) (fun _ _ _ h => h) (Or.inl ⟨by rfl, ?_⟩) ?_ ?_
       rotate_left
       ·intro w'
        go_simp
        with_reducible rfl
       rotate_left
       ·simp only [Act.put, List.setIfInBounds_toArray, List.set_cons_zero, List.set_cons_succ, i64_w, i32_w]
        rfl
       refine done_ (done_of HT_.out (by kernel_rfl)) ?_
       try go_wp2
       go_roundg k1
       case measure => have := HK1.out; omega
       case rel => exact ⟨(wrap64 (x8_1 + 1)), (by first | rfl | (simp; done) | (simp [*]; done)), H', ⟨by have := HK1.out; omega⟩, ⟨by (with_reducible repeat (first | refine blk_drewN ?_ _ | refine blk_drew ?_ | refine blk_alloc ?_ _)); exact BK679.out⟩, ⟨by repeat (first | (with_reducible first | exact HB.out | apply below_alloc | apply pw_below_drewN | apply below_drew1 | refine below_set ?_ GE679.out) | exact HB.out)⟩⟩
      ·replace c8 := Bool.eq_false_iff.mpr c8
       subst c8
       have H1 : ((impl_votes_all.f a0_0 l0_1).bind fun t681 => (if 0 ≤ (Go.bits .andNot .i64 t681 x8_1) then (if (Go.bits .andNot .i64 t681 x8_1) < (l0_1.length : Int) then (if (rdOf false l0_1 (Go.bits .andNot .i64 t681 x8_1) = true) then (impl_votes_isStrong.l0 k1 l0_1 (l0_1.length : Int) (wrap64 (x8_1 + 1)) a0_0 l0_1) else (some false)) else (none)) else (none))) = some r := by rw [if_neg (show ¬ (false = true) by decide)] at H; exact H
       clear H
       have H := H1
       clear H1
       replace H := Option.bind_eq_some_iff.mp H
       obtain ⟨t681, A100, H⟩ := H
       replace H : (if 0 ≤ (Go.bits .andNot .i64 t681 x8_1) then (if (Go.bits .andNot .i64 t681 x8_1) < (l0_1.length : Int) then (if (rdOf false l0_1 (Go.bits .andNot .i64 t681 x8_1) = true) then (impl_votes_isStrong.l0 k1 l0_1 (l0_1.length : Int) (wrap64 (x8_1 + 1)) a0_0 l0_1) else (some false)) else (none)) else (none)) = some r := H
       have A10 := Aside0.mk A100
       clear A100
       by_cases c11 : 0 ≤ (Go.bits .andNot .i64 t681 x8_1)
       ·rw [if_pos c11] at H
        have c11b0 : decide (0 ≤ (Go.bits .andNot .i64 t681 x8_1)) = true := decide_eq_true c11
        clear c11
        by_cases c12 : (Go.bits .andNot .i64 t681 x8_1) < (l0_1.length : Int)
        ·rw [if_pos c12] at H
         have c12b0 : decide ((Go.bits .andNot .i64 t681 x8_1) < (l0_1.length : Int)) = true := decide_eq_true c12
         clear c12
         obtain ⟨bq13, hbq13⟩ : ∃ b_ : Bool, b_ = (rdOf false l0_1 (Go.bits .andNot .i64 t681 x8_1)) := ⟨_, rfl⟩
         replace H : (if (bq13 = true) then (impl_votes_isStrong.l0 k1 l0_1 (l0_1.length : Int) (wrap64 (x8_1 + 1)) a0_0 l0_1) else (some false)) = some r := by rw [← hbq13] at H; exact H
         have Nbq13 := Aside0.mk hbq13
         clear hbq13
         by_cases c14 : (bq13 = true)
         ·subst c14
          have H1 : (impl_votes_isStrong.l0 k1 l0_1 (l0_1.length : Int) (wrap64 (x8_1 + 1)) a0_0 l0_1) = some r := by rw [if_pos rfl] at H; exact H
          clear H
          have H := H1
          clear H1
          have H' := Aside0.mk H
          clear H
          have p680 : 0 ≤ (x8_1 : Int) := of_decide_eq_true (by first | (with_reducible assumption) | assumption)
          have q680 : x8_1 < (l0_1.length : Int) := of_decide_eq_true (by first | (with_reducible assumption) | assumption)
          obtain ⟨ad680, e680, hx680_0⟩ := Kd.at_bool HR0_1.out x8_1 p680 q680
          (try rw [← Nbq7.out] at hx680_0)
          (try rw [← Nbq13.out] at hx680_0)
          cases e680
          replace hx680_0 := (HB.out.cell (World.block_lt_of_cell? w _ hx680_0)).trans hx680_0
          replace p680 := eq_true p680
          replace q680 := eq_true q680
          try go_wp2
          have n0_ := Aside0.mk (blk_drew BK679.out)
          have n1_ := Aside0.mk (below_drew1 HB.out)
          clear BK679
          clear HB
          have BK679 := n0_
          have HB := n1_
          clear n0_ n1_
          have p682 : 0 ≤ ((Go.bits .andNot .i64 t681 x8_1) : Int) := of_decide_eq_true (by first | (with_reducible assumption) | assumption)
          have q682 : (Go.bits .andNot .i64 t681 x8_1) < (l0_1.length : Int) := of_decide_eq_true (by first | (with_reducible assumption) | assumption)
          obtain ⟨ad682, e682, hx682_0⟩ := Kd.at_bool HR0_1.out (Go.bits .andNot .i64 t681 x8_1) p682 q682
          have hw682_0 := hx682_0
          (try rw [← Nbq7.out] at hx682_0)
          (try rw [← Nbq7.out] at hw682_0)
          (try rw [← Nbq13.out] at hx682_0)
          (try rw [← Nbq13.out] at hw682_0)
          obtain rfl : ad680 = ad682 := (by injection e682)
          replace hx682_0 := (HB.out.cell (World.block_lt_of_cell? w _ hx682_0)).trans hx682_0
          replace p682 := eq_true p682
          replace q682 := eq_true q682
          refine start_ (n := 13) (S := fun w' => w'.cell? ⟨gb679, 0, none⟩ = some (.int .i64 a0_0) ∧ w'.cell? ⟨gb679, 1, none⟩ = some (.slice (some ad680) l0_1.length c0_1) ∧ w'.cell? (ad680.add ((Go.bits .andNot .i64 t681 x8_1)).toNat) = some (.bool true)) (ds := []) #[false, false, false, false, false, false, false, false, false, false, false, false, false] (by kernel_rfl) rfl rfl ⟨(blk_cell BK679.out 0).trans rfl, (blk_cell BK679.out 1).trans rfl, ((HB.out.cell (World.block_lt_of_cell? w _ hw682_0)).trans hw682_0)⟩ (fun hHeld => ?_); refine with_tabW impl_votes_isStrong.tab4 impl_votes_isStrong.bits4 (fun HT_ HW_ => ?_)
          generalize wr.drew = w15 at BK679 HB hx682_0 hHeld ⊢
          refine pure_ (i := 0) (N := some 13) (v := ?_) (a' := ?_) #[true, false, false, false, false, false, false, false, false, false, false, false, false] rfl rfl (any_of HT_.out (by kernel_rfl)) (fun _ _ _ h => h) (Or.inl ⟨by rfl, ?_⟩) ?_ ?_
          rotate_left
          ·intro w'
           go_simp
           with_reducible rfl
          rotate_left
          ·simp only [Act.put, List.setIfInBounds_toArray, List.set_cons_zero, List.set_cons_succ, i64_w, i32_w]
           rfl
          refine pure_ (i := 1) (N := some 14) (v := ?_) (a' := ?_) #[true, true, false, false, false, false, false, false, false, false, false, false, false] rfl rfl (any_of HT_.out (by kernel_rfl)) (fun _ _ _ h => h) (Or.inl ⟨by rfl, ?_⟩) ?_ ?_
          rotate_left
          ·intro w'
           go_simp
           with_reducible rfl
          rotate_left
          ·simp only [Act.put, List.setIfInBounds_toArray, List.set_cons_zero, List.set_cons_succ, i64_w, i32_w]
           rfl
          refine pure_ (i := 2) (N := some 15) (v := ?_) (a' := ?_) #[true, true, true, false, false, false, false, false, false, false, false, false, false] rfl rfl (any_of HT_.out (by kernel_rfl)) (fun _ _ _ h => h) (Or.inl ⟨by rfl, ?_⟩) ?_ ?_
          rotate_left
          ·intro w'
           go_simp
           with_reducible rfl
          rotate_left
          ·simp only [Act.put, List.setIfInBounds_toArray, List.set_cons_zero, List.set_cons_succ, i64_w, i32_w]
           rfl
          refine pure_ (i := 3) (N := some 16) (v := ?_) (a' := ?_) #[true, true, true, true, false, false, false, false, false, false, false, false, false] rfl rfl (any_of HT_.out (by kernel_rfl)) (fun _ _ _ h => h) (Or.inl ⟨by rfl, ?_⟩) ?_ ?_
          rotate_left
          ·intro w'
           go_simp
           with_reducible rfl
          rotate_left
          ·simp only [Act.put, List.setIfInBounds_toArray, List.set_cons_zero, List.set_cons_succ, i64_w, i32_w]
           rfl
          refine pure_ (i := 7) (N := some 20) (v := ?_) (a' := ?_) #[true, true, true, true, false, false, false, true, false, false, false, false, false] rfl rfl (any_of HT_.out (by kernel_rfl)) (fun _ _ _ h => h) (Or.inl ⟨by rfl, ?_⟩) ?_ ?_
          rotate_left
          ·intro w'
           go_simp
           with_reducible rfl
          rotate_left
          ·simp only [Act.put, List.setIfInBounds_toArray, List.set_cons_zero, List.set_cons_succ, i64_w, i32_w]
           rfl
          refine take_ (i := 4) (N := some 17) (v := ?_) (a' := ?_) #[true, true, true, true, true, false, false, true, false, false, false, false, false] rfl rfl (take_ofW HT_.out HW_.out (by kernel_rfl)) (fun _ _ _ h => h) (Or.inl ⟨by rfl, ?_⟩) hHeld ?_ ?_
          rotate_left
          ·rintro w' ⟨s0, s1, s2⟩
           go_simp
           with_reducible rfl
          rotate_left
          ·simp only [Act.put, List.setIfInBounds_toArray, List.set_cons_zero, List.set_cons_succ, i64_w, i32_w]
           rfl
          refine take_ (i := 5) (N := some 18) (v := ?_) (a' := ?_) #[true, true, true, true, true, true, false, true, false, false, false, false, false] rfl rfl (take_ofW HT_.out HW_.out (by kernel_rfl)) (fun _ _ _ h => h) (Or.inl ⟨by rfl, ?_⟩) hHeld ?_ ?_
          rotate_left
          ·rintro w' ⟨s0, s1, s2⟩
           go_simp
           with_reducible rfl
          rotate_left
          ·simp only [Act.put, List.setIfInBounds_toArray, List.set_cons_zero, List.set_cons_succ, i64_w, i32_w]
           rfl
          refine one_ (i := 6) (N := some 19) #[true, true, true, true, true, true, true, true, false, false, false, false, false] rfl rfl (one_of HT_.out (by kernel_rfl)) (by decide) (fun K hK => ?_)
          refine goes_ Tryz.func119 (by kernel_rfl) rfl #[.agg #[.int .i64 a0_0, .slice (some ad680) l0_1.length c0_1]] (by rfl) rfl rfl (by (try simp only [List.map_toArray, List.map_cons, List.map_nil]); first | done | rfl | (simp only [List.length_drop, List.length_take]; rfl)) ?_
          with_reducible refine (impl_votes_all.calls a0_0 _ _ l0_1 t681 _ ?side1 ?side2 A10.out).mono ?_
          (case side1 => repeat (first | exact (Kd.C_below HR0_1.out HB.out) | (with_reducible refine Kd.C_alloc ?_ _) | (with_reducible refine Kd.C_drewN ?_ _) | (with_reducible refine Kd.C_drew ?_)))
          (case side2 => exact HC0_1.out)
          rintro e w16 ⟨rfl, hb⟩
          refine ⟨_, rfl, ?_⟩
          have n0_ := Aside0.mk (blk_below (g := gb679) (o := .cells #[.int .i64 a0_0, .slice (some ad680) l0_1.length c0_1] 68 (0, 0)) (by (with_reducible repeat (first | refine blk_drewN ?_ _ | refine blk_drew ?_ | refine blk_alloc ?_ _)); exact BK679.out) hb)
          have n1_ := Aside0.mk (below_step (by repeat (first | (with_reducible first | exact HB.out | apply below_alloc | apply pw_below_drewN | apply below_drew1 | refine below_set ?_ GE679.out) | exact HB.out)) hb)
          clear BK679
          clear HB
          have BK679 := n0_
          have HB := n1_
          clear n0_ n1_
          (try clear hb)
          (try clear hb2)
          (try clear hk)
          (try clear hi)
          refine hK.out _ _ ⟨(blk_cell BK679.out 0).trans rfl, (blk_cell BK679.out 1).trans rfl, ((HB.out.cell (World.block_lt_of_cell? w _ hw682_0)).trans hw682_0)⟩ (fun hHeld => ?_)
          clear hK K
          refine norm_ (a' := ?_) ?_ ?_
          rotate_left
          ·show Act.put _ (some 19) _ = _
           simp only [Act.put, List.setIfInBounds_toArray, List.set_cons_zero, List.set_cons_succ, i64_w, i32_w]
           rfl
          refine pure_ (i := 8) (N := some 21) (v := ?_) (a' := ?_) #[true, true, true, true, true, true, true, true, true, false, false, false, false] rfl rfl (any_of HT_.out (by kernel_rfl)) (fun _ _ _ h => h) (Or.inl ⟨by rfl, ?_⟩) ?_ ?_
          rotate_left
          ·intro w'
           go_simp
           with_reducible rfl
          rotate_left
          ·simp only [Act.put, List.setIfInBounds_toArray, List.set_cons_zero, List.set_cons_succ, i64_w, i32_w]
           rfl
          refine pure_ (i := 9) (N := some 22) (v := ?_) (a' := ?_) #[true, true, true, true, true, true, true, true, true, true, false, false, false] rfl rfl (any_of HT_.out (by kernel_rfl)) (fun _ _ _ h => h) (Or.inl ⟨by rfl, ?_⟩) ?_ ?_
          rotate_left
          ·intro w'
           go_simp
           with_reducible rfl
          rotate_left
          ·simp only [Act.put, List.setIfInBounds_toArray, List.set_cons_zero, List.set_cons_succ, i64_w, i32_w]
           rfl
          refine take_ (i := 10) (N := some 23) (v := ?_) (a' := ?_) #[true, true, true, true, true, true, true, true, true, true, true, false, false] rfl rfl (take_ofW HT_.out HW_.out (by kernel_rfl)) (fun _ _ _ h => h) (Or.inl ⟨by rfl, ?_⟩) hHeld ?_ ?_
          rotate_left
          ·rintro w' ⟨s0, s1, s2⟩
           go_simp
           with_reducible rfl
          rotate_left
          ·simp only [Act.put, List.setIfInBounds_toArray, List.set_cons_zero, List.set_cons_succ, i64_w, i32_w]
           rfl
          refine pure_ (i := 11) (N := some 24) (v := ?_) (a' := ?_) #[true, true, true, true, true, true, true, true, true, true, true, true, false] rfl rfl (any_of HT_.out (by kernel_rfl)) (fun _ _ _ h => h) (Or.inl ⟨by rfl, ?_⟩) ?_ ?_
          rotate_left
          ·intro w'
           go_simp
           with_reducible rfl
          rotate_left
          ·simp only [Act.put, List.setIfInBounds_toArray, List.set_cons_zero, List.set_cons_succ, i64_w, i32_w]
           rfl
          refine pure_ (i := 12) (N := some 25) (v := ?_) (a' := ?_) #[true, true, true, true, true, true, true, true, true, true, true, true, true] rfl rfl (any_of HT_.out (by kernel_rfl)) (fun _ _ _ h => h) (Or.inl ⟨by rfl, ?_⟩) ?_ ?_
          rotate_left
          ·intro w'
           go_simp
           with_reducible rfl
          rotate_left
          ·simp only [Act.put, List.setIfInBounds_toArray, List.set_cons_zero, List.set_cons_succ, i64_w, i32_w]
           rfl
          refine done_ (done_of HT_.out (by kernel_rfl)) ?_
          try go_wp2
          go_roundg k1
          case measure => have := HK1.out; omega
          case rel => exact ⟨(wrap64 (x8_1 + 1)), (by first | rfl | (simp; done) | (simp [*]; done)), H', ⟨by have := HK1.out; omega⟩, ⟨by (with_reducible repeat (first | refine blk_drewN ?_ _ | refine blk_drew ?_ | refine blk_alloc ?_ _)); exact BK679.out⟩, ⟨by repeat (first | (with_reducible first | exact HB.out | apply below_alloc | apply pw_below_drewN | apply below_drew1 | refine below_set ?_ GE679.out) | exact HB.out)⟩⟩
         ·replace c14 := Bool.eq_false_iff.mpr c14
          subst c14
          have H1 : (some false) = some r := by rw [if_neg (show ¬ (false = true) by decide)] at H; exact H
          clear H
          have H := H1
          clear H1
          obtain rfl := Option.some.inj H
          have p680 : 0 ≤ (x8_1 : Int) := of_decide_eq_true (by first | (with_reducible assumption) | assumption)
          have q680 : x8_1 < (l0_1.length : Int) := of_decide_eq_true (by first | (with_reducible assumption) | assumption)
          obtain ⟨ad680, e680, hx680_0⟩ := Kd.at_bool HR0_1.out x8_1 p680 q680
          (try rw [← Nbq7.out] at hx680_0)
          (try rw [← Nbq13.out] at hx680_0)
          cases e680
          replace hx680_0 := (HB.out.cell (World.block_lt_of_cell? w _ hx680_0)).trans hx680_0
          replace p680 := eq_true p680
          replace q680 := eq_true q680
          try go_wp2
          have n0_ := Aside0.mk (blk_drew BK679.out)
          have n1_ := Aside0.mk (below_drew1 HB.out)
          clear BK679
          clear HB
          have BK679 := n0_
          have HB := n1_
          clear n0_ n1_
          have p682 : 0 ≤ ((Go.bits .andNot .i64 t681 x8_1) : Int) := of_decide_eq_true (by first | (with_reducible assumption) | assumption)
          have q682 : (Go.bits .andNot .i64 t681 x8_1) < (l0_1.length : Int) := of_decide_eq_true (by first | (with_reducible assumption) | assumption)
          obtain ⟨ad682, e682, hx682_0⟩ := Kd.at_bool HR0_1.out (Go.bits .andNot .i64 t681 x8_1) p682 q682
          have hw682_0 := hx682_0
          (try rw [← Nbq7.out] at hx682_0)
          (try rw [← Nbq7.out] at hw682_0)
          (try rw [← Nbq13.out] at hx682_0)
          (try rw [← Nbq13.out] at hw682_0)
          obtain rfl : ad680 = ad682 := (by injection e682)
          replace hx682_0 := (HB.out.cell (World.block_lt_of_cell? w _ hx682_0)).trans hx682_0
          replace p682 := eq_true p682
          replace q682 := eq_true q682
          refine start_ (n := 13) (S := fun w' => w'.cell? ⟨gb679, 0, none⟩ = some (.int .i64 a0_0) ∧ w'.cell? ⟨gb679, 1, none⟩ = some (.slice (some ad680) l0_1.length c0_1) ∧ w'.cell? (ad680.add ((Go.bits .andNot .i64 t681 x8_1)).toNat) = some (.bool false)) (ds := []) #[false, false, false, false, false, false, false, false, false, false, false, false, false] (by kernel_rfl) rfl rfl ⟨(blk_cell BK679.out 0).trans rfl, (blk_cell BK679.out 1).trans rfl, ((HB.out.cell (World.block_lt_of_cell? w _ hw682_0)).trans hw682_0)⟩ (fun hHeld => ?_); refine with_tabW impl_votes_isStrong.tab4 impl_votes_isStrong.bits4 (fun HT_ HW_ => ?_)
          generalize wr.drew = w17 at BK679 HB hx682_0 hHeld ⊢
          refine pure_ (i := 0) (N := some 13) (v := ?_) (a' := ?_) #[true, false, false, false, false, false, false, false, false, false, false, false, false] rfl rfl (any_of HT_.out (by kernel_rfl)) (fun _ _ _ h => h) (Or.inl ⟨by rfl, ?_⟩) ?_ ?_
          rotate_left
          ·intro w'
           go_simp
           with_reducible rfl
          rotate_left
          ·simp only [Act.put, List.setIfInBounds_toArray, List.set_cons_zero, List.set_cons_succ, i64_w, i32_w]
           rfl
          refine pure_ (i := 1) (N := some 14) (v := ?_) (a' := ?_) #[true, true, false, false, false, false, false, false, false, false, false, false, false] rfl rfl (any_of HT_.out (by kernel_rfl)) (fun _ _ _ h => h) (Or.inl ⟨by rfl, ?_⟩) ?_ ?_
          rotate_left
          ·intro w'
           go_simp
           with_reducible rfl
          rotate_left
          ·simp only [Act.put, List.setIfInBounds_toArray, List.set_cons_zero, List.set_cons_succ, i64_w, i32_w]
           rfl
          refine pure_ (i := 2) (N := some 15) (v := ?_) (a' := ?_) #[true, true, true, false, false, false, false, false, false, false, false, false, false] rfl rfl (any_of HT_.out (by kernel_rfl)) (fun _ _ _ h => h) (Or.inl ⟨by rfl, ?_⟩) ?_ ?_
          rotate_left
          ·intro w'
           go_simp
           with_reducible rfl
          rotate_left
          ·simp only [Act.put, List.setIfInBounds_toArray, List.set_cons_zero, List.set_cons_succ, i64_w, i32_w]
           rfl
          refine pure_ (i := 3) (N := some 16) (v := ?_) (a' := ?_) #[true, true, true, true, false, false, false, false, false, false, false, false, false] rfl rfl (any_of HT_.out (by kernel_rfl)) (fun _ _ _ h => h) (Or.inl ⟨by rfl, ?_⟩) ?_ ?_
          rotate_left
          ·intro w'
           go_simp
           with_reducible rfl
          rotate_left
          ·simp only [Act.put, List.setIfInBounds_toArray, List.set_cons_zero, List.set_cons_succ, i64_w, i32_w]
           rfl
          refine pure_ (i := 7) (N := some 20) (v := ?_) (a' := ?_) #[true, true, true, true, false, false, false, true, false, false, false, false, false] rfl rfl (any_of HT_.out (by kernel_rfl)) (fun _ _ _ h => h) (Or.inl ⟨by rfl, ?_⟩) ?_ ?_
          rotate_left
          ·intro w'
           go_simp
           with_reducible rfl
          rotate_left
          ·simp only [Act.put, List.setIfInBounds_toArray, List.set_cons_zero, List.set_cons_succ, i64_w, i32_w]
           rfl
          refine take_ (i := 4) (N := some 17) (v := ?_) (a' := ?_) #[true, true, true, true, true, false, false, true, false, false, false, false, false] rfl rfl (take_ofW HT_.out HW_.out (by kernel_rfl)) (fun _ _ _ h => h) (Or.inl ⟨by rfl, ?_⟩) hHeld ?_ ?_
          rotate_left
          ·rintro w' ⟨s0, s1, s2⟩
           go_simp
           with_reducible rfl
          rotate_left
          ·simp only [Act.put, List.setIfInBounds_toArray, List.set_cons_zero, List.set_cons_succ, i64_w, i32_w]
           rfl
          refine take_ (i := 5) (N := some 18) (v := ?_) (a' := ?_) #[true, true, true, true, true, true, false, true, false, false, false, false, false] rfl rfl (take_ofW HT_.out HW_.out (by kernel_rfl)) (fun _ _ _ h => h) (Or.inl ⟨by rfl, ?_⟩) hHeld ?_ ?_
          rotate_left
          ·rintro w' ⟨s0, s1, s2⟩
           go_simp
           with_reducible rfl
          rotate_left
          ·simp only [Act.put, List.setIfInBounds_toArray, List.set_cons_zero, List.set_cons_succ, i64_w, i32_w]
           rfl
          refine one_ (i := 6) (N := some 19) #[true, true, true, true, true, true, true, true, false, false, false, false, false] rfl rfl (one_of HT_.out (by kernel_rfl)) (by decide) (fun K hK => ?_)
          refine goes_ Tryz.func119 (by kernel_rfl) rfl #[.agg #[.int .i64 a0_0, .slice (some ad680) l0_1.length c0_1]] (by rfl) rfl rfl (by (try simp only [List.map_toArray, List.map_cons, List.map_nil]); first | done | rfl | (simp only [List.length_drop, List.length_take]; rfl)) ?_
          with_reducible refine (impl_votes_all.calls a0_0 _ _ l0_1 t681 _ ?side1 ?side2 A10.out).mono ?_
          (case side1 => repeat (first | exact (Kd.C_below HR0_1.out HB.out) | (with_reducible refine Kd.C_alloc ?_ _) | (with_reducible refine Kd.C_drewN ?_ _) | (with_reducible refine Kd.C_drew ?_)))
          (case side2 => exact HC0_1.out)
          rintro e w18 ⟨rfl, hb⟩
          refine ⟨_, rfl, ?_⟩
          have n0_ := Aside0.mk (blk_below (g := gb679) (o := .cells #[.int .i64 a0_0, .slice (some ad680) l0_1.length c0_1] 68 (0, 0)) (by (with_reducible repeat (first | refine blk_drewN ?_ _ | refine blk_drew ?_ | refine blk_alloc ?_ _)); exact BK679.out) hb)
          have n1_ := Aside0.mk (below_step (by repeat (first | (with_reducible first | exact HB.out | apply below_alloc | apply pw_below_drewN | apply below_drew1 | refine below_set ?_ GE679.out) | exact HB.out)) hb)
          clear BK679
          clear HB
          have BK679 := n0_
          have HB := n1_
          clear n0_ n1_
          (try clear hb)
          (try clear hb2)
          (try clear hk)
          (try clear hi)
          refine hK.out _ _ ⟨(blk_cell BK679.out 0).trans rfl, (blk_cell BK679.out 1).trans rfl, ((HB.out.cell (World.block_lt_of_cell? w _ hw682_0)).trans hw682_0)⟩ (fun hHeld => ?_)
          clear hK K
          refine norm_ (a' := ?_) ?_ ?_
          rotate_left
          ·show Act.put _ (some 19) _ = _
           simp only [Act.put, List.setIfInBounds_toArray, List.set_cons_zero, List.set_cons_succ, i64_w, i32_w]
           rfl
          refine pure_ (i := 8) (N := some 21) (v := ?_) (a' := ?_) #[true, true, true, true, true, true, true, true, true, false, false, false, false] rfl rfl (any_of HT_.out (by kernel_rfl)) (fun _ _ _ h => h) (Or.inl ⟨by rfl, ?_⟩) ?_ ?_
          rotate_left
          ·intro w'
           go_simp
           with_reducible rfl
          rotate_left
          ·simp only [Act.put, List.setIfInBounds_toArray, List.set_cons_zero, List.set_cons_succ, i64_w, i32_w]
           rfl
          refine pure_ (i := 9) (N := some 22) (v := ?_) (a' := ?_) #[true, true, true, true, true, true, true, true, true, true, false, false, false] rfl rfl (any_of HT_.out (by kernel_rfl)) (fun _ _ _ h => h) (Or.inl ⟨by rfl, ?_⟩) ?_ ?_
          rotate_left
          ·intro w'
           go_simp
           with_reducible rfl
          rotate_left
          ·simp only [Act.put, List.setIfInBounds_toArray, List.set_cons_zero, List.set_cons_succ, i64_w, i32_w]
           rfl
          refine take_ (i := 10) (N := some 23) (v := ?_) (a' := ?_) #[true, true, true, true, true, true, true, true, true, true, true, false, false] rfl rfl (take_ofW HT_.out HW_.out (by kernel_rfl)) (fun _ _ _ h => h) (Or.inl ⟨by rfl, ?_⟩) hHeld ?_ ?_
          rotate_left
          ·rintro w' ⟨s0, s1, s2⟩
           go_simp
           with_reducible rfl
          rotate_left
          ·simp only [Act.put, List.setIfInBounds_toArray, List.set_cons_zero, List.set_cons_succ, i64_w, i32_w]
           rfl
          refine pure_ (i := 11) (N := some 24) (v := ?_) (a' := ?_) #[true, true, true, true, true, true, true, true, true, true, true, true, false] rfl rfl (any_of HT_.out (by kernel_rfl)) (fun _ _ _ h => h) (Or.inl ⟨by rfl, ?_⟩) ?_ ?_
          rotate_left
          ·intro w'
           go_simp
           with_reducible rfl
          rotate_left
          ·simp only [Act.put, List.setIfInBounds_toArray, List.set_cons_zero, List.set_cons_succ, i64_w, i32_w]
           rfl
          refine pure_ (i := 12) (N := some 25) (v := ?_) (a' := ?_) #[true, true, true, true, true, true, true, true, true, true, true, true, true] rfl rfl (any_of HT_.out (by kernel_rfl)) (fun _ _ _ h => h) (Or.inl ⟨by rfl, ?_⟩) ?_ ?_
          rotate_left
          ·intro w'
           go_simp
           with_reducible rfl
          rotate_left
          ·simp only [Act.put, List.setIfInBounds_toArray, List.set_cons_zero, List.set_cons_succ, i64_w, i32_w]
           rfl
          refine done_ (done_of HT_.out (by kernel_rfl)) ?_
          try go_wp2
          go_ret
          exact ⟨by first | rfl | (simp [errW_none, errW_some] <;> rfl) | (simp [*, errW_none, errW_some] <;> rfl), by repeat (first | (with_reducible first | exact HB.out | apply below_alloc | apply pw_below_drewN | apply below_drew1 | refine below_set ?_ GE679.out) | exact HB.out)⟩
        ·rw [if_neg c12] at H
         exact absurd H (by simp)
       ·rw [if_neg c11] at H
        exact absurd H (by simp)
     ·rw [if_neg c6] at H
      exact absurd H (by simp)
    ·rw [if_neg c5] at H
     exact absurd H (by simp)
   ·rw [if_neg c4] at H
    have c4b0 : decide (x8_1 < (l0_1.length : Int)) = false := decide_eq_false c4
    clear c4
    obtain rfl := Option.some.inj H
    go_wp2
    go_ret
    exact ⟨by first | rfl | (simp [errW_none, errW_some] <;> rfl) | (simp [*, errW_none, errW_some] <;> rfl), by repeat (first | (with_reducible first | exact HB.out | apply below_alloc | apply pw_below_drewN | apply below_drew1 | refine below_set ?_ GE679.out) | exact HB.out)⟩
end Go.Proofs.YtnncjnjfdhbddaaGreat.Z
namespace Go.Proofs.YtnncjnjfdhbddaaGreat.Z
open Go.RowKit Go.Proofs.YtnncjnjfdhbddaaGreatW.PrintWords Go.Proofs.YtnncjnjfdhbddaaGreatW.PrintLast Go.Proofs.YtnncjnjfdhbddaaGreatW.PrintMore
attribute [local go_sem] max2_int min2_int max_two min_two max_three min_three max_four min_four
set_option linter.unusedVariables false
set_option linter.unusedSimpArgs false
theorem wrap64_nat (k : Nat) (h : k < 2 ^ 62) : wrap64 (k : Int) = (k : Int) := by rw [← i64_w]; exact wraps_i64 _ (by omega) (by omega)
theorem wrap64_nat1 (k : Nat) (h : k < 2 ^ 62) : wrap64 ((k : Int) + 1) = ((k + 1 : Nat) : Int) := by rw [← i64_w]; exact wraps_i64 _ (by omega) (by omega)
def countW (wins : List Bool) : Nat := wins.countP id
theorem countWins_l (wins : List Bool) (hl : wins.length ≤ 512) : ∀ (d j c : Nat), j + d = wins.length → c ≤ j → impl_votes_countWins.l0 (d + 1) (c : Int) wins (wins.length : Int) (j : Int) = some (((c + (wins.drop j).countP id : Nat)) : Int)
 | 0, j, c, h, hc => by
  rw [impl_votes_countWins.l0, if_neg (by omega), List.drop_eq_nil_of_le (by omega)]
  simp
 | d + 1, j, c, h, hc => by
  have hj : j < wins.length := by omega
  have e : wins.drop j = wins.getD j false :: wins.drop (j + 1) := by rw [List.drop_eq_getElem_cons hj]; simp [List.getD_eq_getElem?_getD, hj]
  have hrd : rdOf false wins (j : Int) = wins.getD j false := by simp [rdOf]
  rw [impl_votes_countWins.l0, if_pos (by omega), if_pos (by omega), if_pos (by omega), hrd, wrap64_nat1 j (by omega), wrap64_nat1 c (by omega), e]
  cases hb : wins.getD j false with
  | true => rw [if_pos rfl, countWins_l wins hl d (j + 1) (c + 1) (by omega) (by omega)]; simp; omega
  | false => rw [if_neg (by simp), countWins_l wins hl d (j + 1) c (by omega) (by omega)]; simp
theorem countWins_f (n : Int) (wins : List Bool) (hl : wins.length ≤ 512) : impl_votes_countWins.f (wins.length + 1) n wins = some ((countW wins : Nat) : Int) := by
 have := countWins_l wins hl wins.length 0 0 (by omega) (by omega)
 simpa [impl_votes_countWins.f, countW] using this
theorem all_f (n : Nat) (hn : n ≤ 4) (wins : List Bool) : impl_votes_all.f (n : Int) wins = some ((2 ^ n - 1 : Nat) : Int) := by
 have : n = 0 ∨ n = 1 ∨ n = 2 ∨ n = 3 ∨ n = 4 := by omega
 rcases this with h | h | h | h | h <;> subst h <;> (simp only [impl_votes_all.f]; decide +kernel)
theorem anti4 : ∀ n, n ≤ 4 → ∀ m, m < 2 ^ n → (2 ^ n - 1) &&& (18446744073709551615 - m) = 2 ^ n - 1 - m := by decide +kernel
theorem anti_f (n : Nat) (hn : n ≤ 4) (m : Nat) (hm : m < 2 ^ n) : Go.bits .andNot .i64 ((2 ^ n - 1 : Nat) : Int) (m : Int) = ((2 ^ n - 1 - m : Nat) : Int) := by
 have h16 : 2 ^ n ≤ 16 := Nat.le_trans (Nat.pow_le_pow_right (by decide) hn) (by decide)
 rw [andNot_nat _ _ (by omega) (by omega), anti4 n hn m hm]
def bothB (b : Bool) (n : Nat) (wins : List Bool) (m : Nat) : Bool := (wins.getD m false == b) && (wins.getD (2 ^ n - 1 - m) false == b)
def properB (n : Nat) (wins : List Bool) : Bool := (List.range wins.length).all fun m => !(bothB true n wins m)
def strongB (n : Nat) (wins : List Bool) : Bool := (List.range wins.length).all fun m => !(bothB false n wins m)
theorem range_all_step (p : Nat → Bool) (N j : Nat) (hj : j < N) : ((List.range N).drop j).all p = (p j && ((List.range N).drop (j + 1)).all p) := by
 rw [List.drop_eq_getElem_cons (by simpa using hj)]
 simp
theorem proper_l (n : Nat) (hn : n ≤ 4) (wins : List Bool) (hw : wins.length = 2 ^ n) : ∀ (d j : Nat), j + d = wins.length → impl_votes_isProper.l0 (d + 1) wins (wins.length : Int) (j : Int) (n : Int) wins = some (((List.range wins.length).drop j).all fun m => !(bothB true n wins m))
 | 0, j, h => by
  rw [impl_votes_isProper.l0, if_neg (by omega), List.drop_eq_nil_of_le (by simp; omega)]
  rfl
 | d + 1, j, h => by
  have hj : j < wins.length := by omega
  have h16 : 2 ^ n ≤ 16 := Nat.le_trans (Nat.pow_le_pow_right (by decide) hn) (by decide)
  have hrd : ∀ m : Nat, rdOf false wins (m : Int) = wins.getD m false := fun m => by simp [rdOf]
  have ih := proper_l n hn wins hw d (j + 1) (by omega)
  rw [impl_votes_isProper.l0, if_pos (by omega), if_pos (by omega), if_pos (by omega), hrd, wrap64_nat1 j (by omega), ih, range_all_step _ _ _ hj, bothB]
  cases wins.getD j false with
  | false => rw [if_neg (by simp)]; simp
  | true =>
   rw [if_pos rfl, all_f n hn, Option.bind_some, anti_f n hn j (by omega), if_pos (by omega), if_pos (by omega), hrd]
   cases wins.getD (2 ^ n - 1 - j) false <;> simp
theorem proper_f (n : Nat) (hn : n ≤ 4) (wins : List Bool) (hw : wins.length = 2 ^ n) : impl_votes_isProper.f (wins.length + 1) (n : Int) wins = some (properB n wins) := by
 have := proper_l n hn wins hw wins.length 0 (by omega)
 simpa [impl_votes_isProper.f, properB] using this
theorem strong_l (n : Nat) (hn : n ≤ 4) (wins : List Bool) (hw : wins.length = 2 ^ n) : ∀ (d j : Nat), j + d = wins.length → impl_votes_isStrong.l0 (d + 1) wins (wins.length : Int) (j : Int) (n : Int) wins = some (((List.range wins.length).drop j).all fun m => !(bothB false n wins m))
 | 0, j, h => by
  rw [impl_votes_isStrong.l0, if_neg (by omega), List.drop_eq_nil_of_le (by simp; omega)]
  rfl
 | d + 1, j, h => by
  have hj : j < wins.length := by omega
  have h16 : 2 ^ n ≤ 16 := Nat.le_trans (Nat.pow_le_pow_right (by decide) hn) (by decide)
  have hrd : ∀ m : Nat, rdOf false wins (m : Int) = wins.getD m false := fun m => by simp [rdOf]
  have ih := strong_l n hn wins hw d (j + 1) (by omega)
  rw [impl_votes_isStrong.l0, if_pos (by omega), if_pos (by omega), if_pos (by omega), hrd, wrap64_nat1 j (by omega), ih, range_all_step _ _ _ hj, bothB]
  cases wins.getD j false with
  | true => rw [if_pos rfl]; simp
  | false =>
   rw [if_neg (by simp), all_f n hn, Option.bind_some, anti_f n hn j (by omega), if_pos (by omega), if_pos (by omega), hrd]
   cases wins.getD (2 ^ n - 1 - j) false <;> simp
theorem strong_f (n : Nat) (hn : n ≤ 4) (wins : List Bool) (hw : wins.length = 2 ^ n) : impl_votes_isStrong.f (wins.length + 1) (n : Int) wins = some (strongB n wins) := by
 have := strong_l n hn wins hw wins.length 0 (by omega)
 simpa [impl_votes_isStrong.f, strongB] using this
def swB (wins : List Bool) (k m : Nat) : Bool := !(m.testBit k) && (!(wins.getD m false) && wins.getD (m + 2 ^ k) false)
theorem fit4 : ∀ n, n ≤ 4 → ∀ k, k < n → ∀ m, m < 2 ^ n → m.testBit k = false → m + 2 ^ k < 2 ^ n := by decide +kernel
theorem isSwing_f (n : Nat) (hn : n ≤ 4) (wins : List Bool) (hw : wins.length = 2 ^ n) (m k : Nat) (hm : m < wins.length) (hk : k < n) : impl_votes_isSwing.f (n : Int) wins (m : Int) (k : Int) = some (swB wins k m) := by
 have h16 : 2 ^ n ≤ 16 := Nat.le_trans (Nat.pow_le_pow_right (by decide) hn) (by decide)
 have hrd : ∀ m : Nat, rdOf false wins (m : Int) = wins.getD m false := fun m => by simp [rdOf]
 rw [impl_votes_isSwing.f, has_eq m k (by omega) (by omega), Option.bind_some, swB]
 cases hb : m.testBit k with
 | true => simp
 | false =>
  rw [if_neg (by simp), if_pos (by omega), if_pos (by omega), hrd]
  cases wins.getD m false with
  | true => simp
  | false =>
   have h1 := fit4 n hn k hk m (by omega) hb
   rw [if_neg (by simp), if_pos (by omega), set_eq m k (by omega) (by omega) hb]
   generalize m + 2 ^ k = z at h1 ⊢
   rw [if_pos (by omega), if_pos (by omega), hrd]
   rfl
def swCount (wins : List Bool) (k : Nat) : Nat := (List.range wins.length).countP (swB wins k)
def swingsL (n : Nat) (wins : List Bool) : List Int := (List.range n).map fun k => ((swCount wins k : Nat) : Int)
theorem range_count_step (p : Nat → Bool) (N j : Nat) (hj : j < N) : ((List.range N).drop j).countP p = (if p j then 1 else 0) + ((List.range N).drop (j + 1)).countP p := by
 rw [List.drop_eq_getElem_cons (by simpa using hj), List.countP_cons]
 simp [Nat.add_comm]
theorem swings_l1 (n : Nat) (hn : n ≤ 4) (wins : List Bool) (hw : wins.length = 2 ^ n) (k : Nat) (hk : k < n) (N0 : Int) : ∀ (d j : Nat) (f : Nat) (l : List Int) (c : Nat), j + d = wins.length → l.length = n → l.getD k 0 = (c : Int) → c ≤ j →
  impl_votes_swings.l1 (f + d + 1) l (k : Int) N0 (k : Int) (wins.length : Int) (j : Int) (n : Int) wins = impl_votes_swings.l0 f (l.set k ((c + ((List.range wins.length).drop j).countP (swB wins k) : Nat) : Int)) N0 ((k + 1 : Nat) : Int) (n : Int) wins
 | 0, j, f, l, c, h, hl, hc, hcj => by
  have e : l.set k ((c + ((List.range wins.length).drop j).countP (swB wins k) : Nat) : Int) = l := by
   rw [List.drop_eq_nil_of_le (by simp; omega)]
   simp only [List.countP_nil, Nat.add_zero, ← hc]
   apply List.ext_getElem (by simp)
   intro i h1 h2
   rw [List.getElem_set]
   split
   ·rename_i hi; subst hi; simp [List.getD_eq_getElem?_getD, h2]
   ·rfl
  rw [e, Nat.add_zero, impl_votes_swings.l1, if_neg (by omega), wrap64_nat1 k (by omega)]
 | d + 1, j, f, l, c, h, hl, hc, hcj => by
  have hj : j < wins.length := by omega
  have h16 : 2 ^ n ≤ 16 := Nat.le_trans (Nat.pow_le_pow_right (by decide) hn) (by decide)
  have hrd : rd l (k : Int) = (c : Int) := by rw [← hc]; simp [rd]
  rw [show f + (d + 1) + 1 = (f + d + 1) + 1 by omega, impl_votes_swings.l1, if_pos (by omega), isSwing_f n hn wins hw j k hj hk, Option.bind_some, range_count_step _ _ _ hj, wrap64_nat1 j (by omega)]
  cases hb : swB wins k j with
  | false =>
   rw [if_neg (by simp), swings_l1 n hn wins hw k hk N0 d (j + 1) f l c (by omega) hl hc (by omega)]
   simp
  | true =>
   rw [if_pos rfl, if_pos (by omega), if_pos (by omega), hrd, Int.toNat_natCast, wrap64_nat1 c (by omega), swings_l1 n hn wins hw k hk N0 d (j + 1) f (l.set k ((c + 1 : Nat) : Int)) (c + 1) (by omega) (by simpa using hl) (by simp [List.getD_eq_getElem?_getD, show k < l.length by omega]) (by omega)]
   simp only [List.set_set, if_true]
   congr 3
   omega
theorem swings_l0 (n : Nat) (hn : n ≤ 4) (wins : List Bool) (hw : wins.length = 2 ^ n) : ∀ (d k : Nat) (l : List Int), k + d = n → l.length = n → (∀ i, i < n → l.getD i 0 = if i < k then ((swCount wins i : Nat) : Int) else 0) →
  ∃ f, impl_votes_swings.l0 f l (n : Int) (k : Int) (n : Int) wins = some (swingsL n wins)
 | 0, k, l, h, hl, hi => by
  refine ⟨1, ?_⟩
  rw [impl_votes_swings.l0, if_neg (by omega)]
  congr 1
  apply List.ext_getElem (by simp [swingsL, hl])
  intro i h1 h2
  have := hi i (by omega)
  rw [if_pos (by omega)] at this
  simpa [swingsL, List.getD_eq_getElem?_getD, h1] using this
 | d + 1, k, l, h, hl, hi => by
  obtain ⟨f, hf⟩ := swings_l0 n hn wins hw d (k + 1) (l.set k ((swCount wins k : Nat) : Int)) (by omega) (by simpa using hl) (by
   intro i hin
   have := hi i hin
   by_cases hik : i = k
   ·subst hik
    rw [if_pos (by omega)]
    simp [List.getD_eq_getElem?_getD, show i < l.length by omega]
   ·have e1 : (l.set k ((swCount wins k : Nat) : Int)).getD i 0 = l.getD i 0 := by
     simp only [List.getD_eq_getElem?_getD]
     rw [List.getElem?_set_ne (Ne.symm hik)]
    rw [e1, this]
    by_cases hlt : i < k
    ·rw [if_pos hlt, if_pos (by omega)]
    ·rw [if_neg hlt, if_neg (by omega)])
  refine ⟨f + wins.length + 1 + 1, ?_⟩
  have hk := hi k (by omega)
  rw [if_neg (by omega)] at hk
  have h1 := swings_l1 n hn wins hw k (by omega) (n : Int) wins.length 0 f l 0 (by omega) hl (by simpa using hk) (by omega)
  rw [impl_votes_swings.l0, if_pos (by omega)]
  rw [show (0 : Int) = ((0 : Nat) : Int) by rfl, h1, ← hf]
  simp [swCount]
theorem swings_f (n : Nat) (hn : n ≤ 4) (wins : List Bool) (hw : wins.length = 2 ^ n) : ∃ f, impl_votes_swings.f f (n : Int) wins = some (swingsL n wins) := by
 obtain ⟨f, hf⟩ := swings_l0 n hn wins hw n 0 (List.replicate n 0) (by omega) (by simp) (fun i hi => by simp [List.getD_eq_getElem?_getD, hi])
 refine ⟨f, ?_⟩
 rw [impl_votes_swings.f, if_pos (by omega), Int.toNat_natCast, if_pos (by omega), Option.bind_some, List.length_replicate]
 exact hf
end Go.Proofs.YtnncjnjfdhbddaaGreat.Z
namespace Go.Proofs.YtnncjnjfdhbddaaGreat.Z
open Go.RowKit Go.Proofs.YtnncjnjfdhbddaaGreatW.PrintWords Go.Proofs.YtnncjnjfdhbddaaGreatW.PrintLast Go.Proofs.YtnncjnjfdhbddaaGreatW.PrintMore
attribute [local go_sem] max2_int min2_int max_two min_two max_three min_three max_four min_four
set_option linter.unusedVariables false
set_option linter.unusedSimpArgs false
def idxI {α : Type} (p : α → Bool) (l : List α) : Int := if l.any p then (l.findIdx p : Int) else -1
theorem idxI_hit {α : Type} (p : α → Bool) (l : List α) (d : α) (k : Nat) (h : k < l.length) (hk : p (l.getD k d) = true) (ha : ∀ j, j < k → p (l.getD j d) = false) : idxI p l = k := by
 have e : l.findIdx p = k := by
  rw [List.findIdx_eq h]
  refine ⟨by simpa [List.getD_eq_getElem?_getD, h] using hk, fun j hj => ?_⟩
  have := ha j hj
  simpa [List.getD_eq_getElem?_getD, Nat.lt_trans hj h] using this
 have a : l.any p = true := List.any_eq_true.2 ⟨l.getD k d, by simp [List.getD_eq_getElem?_getD, h], hk⟩
 rw [idxI, if_pos a, e]
theorem idxI_miss {α : Type} (p : α → Bool) (l : List α) (d : α) (ha : ∀ j, j < l.length → p (l.getD j d) = false) : idxI p l = -1 := by
 rw [idxI, if_neg]
 intro h
 obtain ⟨x, hx, hp⟩ := List.any_eq_true.1 h
 obtain ⟨j, hj, rfl⟩ := List.mem_iff_getElem.1 hx
 have := ha j hj
 simp [List.getD_eq_getElem?_getD, hj, hp] at this
theorem idxI_nonneg {α : Type} (p : α → Bool) (l : List α) : decide (0 ≤ idxI p l) = l.any p := by
 unfold idxI
 cases h : l.any p <;> simp
end Go.Proofs.YtnncjnjfdhbddaaGreat.Z
namespace Go.Proofs.YtnncjnjfdhbddaaGreat.Z
open Go.RowKit Go.Proofs.YtnncjnjfdhbddaaGreatW.PrintWords Go.Proofs.YtnncjnjfdhbddaaGreatW.PrintLast Go.Proofs.YtnncjnjfdhbddaaGreatW.PrintMore
attribute [local go_sem] max2_int min2_int max_two min_two max_three min_three max_four min_four
set_option linter.unusedVariables false
set_option linter.unusedSimpArgs false
set_option maxHeartbeats 4000000 in
theorem indexFunc_cl (p : S86 → Bool) (g : Nat) (cb : Array Value) (A : Option Addr) (c : Nat) (l : List S86) (w : World)
  (eg : ∀ args w, (callFunc g args).run Tryz.prog w = .ok (.enter g args) w)
  (hr : Kd.C k86 w A l.length l)
  (hp : ∀ W x, x ∈ l → Below w.heap.size w W → Calls Tryz.prog g (#[.agg #[.int .i64 x.f0, .int .i64 x.f1, .int .i64 x.f2]] ++ cb) W fun e w' => e = .returned (.bool (p x)) ∧ Below W.heap.size W w') :
  Calls Tryz.prog 130 #[.slice A l.length c, .func (.func g) #[] cb] w fun e w' => e = .returned (.int .i64 (idxI p l)) ∧ Below w.heap.size w w' := by
 have HR := Aside0.mk hr
 have HP := Aside0.mk hp
 have hm := hr.2.1
 have hu := Tryz.underlying86
 clear hr hp
 go_enter Tryz.func130, Tryz.ntmps130
 go_wp2
 go_loopg [5, 8] l.length (fun gg _ s8 wr => ∃ kk : Nat, kk ≤ l.length ∧ l.length - kk ≤ gg ∧ s8 = .int .i64 kk ∧ Aside0 (Below w.heap.size w wr) ∧ Aside0 (∀ j, j < kk → p (l.getD j z86) = false))
 case atStart => exact ⟨0, Nat.zero_le _, by omega, rfl, ⟨Below.refl _ w⟩, ⟨fun j hj => absurd hj (Nat.not_lt_zero _)⟩⟩
 case round =>
  obtain ⟨kk, hkk, hg, rfl, BW, HA⟩ := hrel
  by_cases hlt : kk < l.length
  ·have hltz : (kk : Int) < (l.length : Int) := by omega
   have h0z : (0 : Int) ≤ (kk : Int) := by omega
   obtain ⟨ad, e, hc0, hc1, hc2⟩ := at_T86 (Kd.C_below HR.out BW.out) (kk : Int) (by omega) hltz
   subst e
   rw [Int.toNat_natCast] at hc0 hc1 hc2
   have hy0 : rd_T86 l (kk : Int) = l.getD kk z86 := by simp [rd_T86]
   have hmem : l.getD kk z86 ∈ l := by simp [List.getD_eq_getElem?_getD, hlt]
   rw [hy0] at hc0 hc1 hc2
   have hcall := HP.out wr _ hmem BW.out
   clear hy0 hmem HR HP
   generalize hy : l.getD kk z86 = y at *
   have B := Aside0.mk hy
   clear hy
   cases hq : p y with
   | true =>
    rw [hq] at hcall
    have Q := Aside0.mk hq
    clear hq
    go_wp2_with (go_at_fn g; refine hcall.mono ?_; rintro e w' ⟨rfl, hb'⟩)
    go_ret
    refine ⟨?_, Below.trans BW.out (hb'.mono BW.out.size)⟩
    rw [idxI_hit p l z86 kk hlt (by rw [B.out]; exact Q.out) HA.out]
    rfl
   | false =>
    rw [hq] at hcall
    have Q := Aside0.mk hq
    clear hq
    go_wp2_with (go_at_fn g; refine hcall.mono ?_; rintro e w' ⟨rfl, hb'⟩)
    go_roundg (l.length - (kk + 1))
    case measure => omega
    case rel =>
     refine ⟨kk + 1, by omega, by omega, by go_num, ⟨Below.trans BW.out (hb'.mono BW.out.size)⟩, ⟨fun j hj => ?_⟩⟩
     by_cases e : j = kk
     ·subst e
      rw [B.out]; exact Q.out
     ·exact HA.out j (by omega)
  ·have hltz : ¬ (kk : Int) < (l.length : Int) := by omega
   have : kk = l.length := by omega
   subst this
   go_wp2
   go_ret
   refine ⟨?_, BW.out⟩
   rw [idxI_miss p l z86 HA.out]
   rfl
set_option maxHeartbeats 2000000 in
theorem containsFunc_cl (p : S86 → Bool) (g : Nat) (cb : Array Value) (A : Option Addr) (c : Nat) (l : List S86) (w : World)
  (eg : ∀ args w, (callFunc g args).run Tryz.prog w = .ok (.enter g args) w)
  (hr : Kd.C k86 w A l.length l)
  (hp : ∀ W x, x ∈ l → Below w.heap.size w W → Calls Tryz.prog g (#[.agg #[.int .i64 x.f0, .int .i64 x.f1, .int .i64 x.f2]] ++ cb) W fun e w' => e = .returned (.bool (p x)) ∧ Below W.heap.size W w') :
  Calls Tryz.prog 88 #[.slice A l.length c, .func (.func g) #[] cb] w fun e w' => e = .returned (.bool (l.any p)) ∧ Below w.heap.size w w' := by
 rw [← idxI_nonneg]
 have hI := indexFunc_cl p g cb A c l w eg hr hp
 generalize idxI p l = i at hI
 go_enter Tryz.func88, Tryz.ntmps88
 go_wp2_with (go_at_call 130; refine hI.mono ?_; rintro e w' ⟨rfl, hb'⟩)
 go_ret
 exact ⟨rfl, hb'⟩
end Go.Proofs.YtnncjnjfdhbddaaGreat.Z
namespace Go.Proofs.YtnncjnjfdhbddaaGreat.Z
open Go.RowKit Go.Proofs.YtnncjnjfdhbddaaGreatW.PrintWords Go.Proofs.YtnncjnjfdhbddaaGreatW.PrintLast Go.Proofs.YtnncjnjfdhbddaaGreatW.PrintMore
attribute [local go_sem] max2_int min2_int max_two min_two max_three min_three max_four min_four
set_option linter.unusedVariables false
set_option linter.unusedSimpArgs false
def impl_within.f (a0 : Int) (a1 : Int) (a2 : Int) : Option (Bool) := if a0 ≥ a1 then (some (decide (a0 ≤ a2))) else (some false)
set_option maxHeartbeats 8000000 in
set_option maxRecDepth 100000 in
theorem impl_within.calls (a0 : Int) (a1 : Int) (a2 : Int) (r : Bool) (w : World) (h : impl_within.f a0 a1 a2 = some r) :
  Calls Tryz.prog 108 #[.int .i64 a0, .int .i64 a1, .int .i64 a2] w fun e w' => e = .returned (.bool r) ∧ Drawn0 w w' := by
 have H : (if a0 ≥ a1 then (some (decide (a0 ≤ a2))) else (some false)) = some r := h
 clear h
 by_cases c4 : a0 ≥ a1
 ·rw [if_pos c4] at H
  have c4b0 : decide (a1 ≤ a0) = true := decide_eq_true c4
  clear c4
  obtain rfl := Option.some.inj H
  go_enter Tryz.func108, Tryz.ntmps108
  go_wp2
  go_ret
  exact ⟨by first | rfl | (simp; done) | (simp [*]; done), by repeat (first | exact Drawn0.refl _ | apply Drawn0.step)⟩
 ·rw [if_neg c4] at H
  have c4b0 : decide (a1 ≤ a0) = false := decide_eq_false c4
  clear c4
  obtain rfl := Option.some.inj H
  go_enter Tryz.func108, Tryz.ntmps108
  go_wp2
  go_ret
  exact ⟨by first | rfl | (simp; done) | (simp [*]; done), by repeat (first | exact Drawn0.refl _ | apply Drawn0.step)⟩
end Go.Proofs.YtnncjnjfdhbddaaGreat.Z
namespace Go.Proofs.YtnncjnjfdhbddaaGreat.Z
open Go.RowKit Go.Proofs.YtnncjnjfdhbddaaGreatW.PrintWords Go.Proofs.YtnncjnjfdhbddaaGreatW.PrintLast Go.Proofs.YtnncjnjfdhbddaaGreatW.PrintMore
attribute [local go_sem] max2_int min2_int max_two min_two max_three min_three max_four min_four
set_option linter.unusedVariables false
set_option linter.unusedSimpArgs false
def impl_isHidden.f (a0 : Int) : Option (Bool) := (impl_within.f a0 1 4).bind fun t683 => (some t683)
set_option maxHeartbeats 8000000 in
set_option maxRecDepth 100000 in
theorem impl_isHidden.calls (a0 : Int) (r : Bool) (w : World) (h : impl_isHidden.f a0 = some r) :
  Calls Tryz.prog 93 #[.int .i64 a0] w fun e w' => e = .returned (.bool r) ∧ Drawn0 w w' := by
 have H : ((impl_within.f a0 1 4).bind fun t683 => (some t683)) = some r := h
 clear h
 replace H := Option.bind_eq_some_iff.mp H
 obtain ⟨t683, A20, H⟩ := H
 replace H : (some t683) = some r := H
 have A2 := Aside0.mk A20
 clear A20
 obtain rfl := Option.some.inj H
 go_enter Tryz.func93, Tryz.ntmps93
 go_wp2_with (first | ((with_reducible refine gate_callee (f := 108) rfl ?_); refine goesL_ (some 4) rfl rfl Tryz.func108 (by kernel_rfl) rfl #[.int .i64 a0, .int .i64 1, .int .i64 4] rfl (by (try simp only [List.map_toArray, List.map_cons, List.map_nil]); first | done | rfl | (simp only [List.length_drop, List.length_take]; rfl)) ?_; (with_reducible refine (impl_within.calls a0 1 4 t683 _ A2.out).mono ?_); rintro e w' ⟨rfl, ⟨nd, rfl⟩⟩; refine ⟨_, rfl, ?_⟩))
 go_ret
 exact ⟨by first | rfl | (simp; done) | (simp [*]; done), by repeat (first | exact Drawn0.refl _ | apply Drawn0.step)⟩
end Go.Proofs.YtnncjnjfdhbddaaGreat.Z
namespace Go.Proofs.YtnncjnjfdhbddaaGreat.Z
open Go.RowKit Go.Proofs.YtnncjnjfdhbddaaGreatW.PrintWords Go.Proofs.YtnncjnjfdhbddaaGreatW.PrintLast Go.Proofs.YtnncjnjfdhbddaaGreatW.PrintMore
attribute [local go_sem] max2_int min2_int max_two min_two max_three min_three max_four min_four
set_option linter.unusedVariables false
set_option linter.unusedSimpArgs false
def inI (x lo hi : Int) : Bool := decide (lo ≤ x ∧ x ≤ hi)
def clueB (n : Int) (c : S86) : Bool :=
 if c.f0 = 0 then inI c.f1 0 (2 ^ n.toNat - 1) && inI c.f2 0 1
 else if c.f0 = 1 then inI c.f1 1 15 && (c.f2 == 0)
 else if c.f0 = 2 then inI c.f1 0 (n - 1) && inI c.f2 0 1
 else if c.f0 = 3 then inI c.f1 0 (n - 1) && inI c.f2 0 8
 else if c.f0 = 4 ∨ c.f0 = 5 then inI c.f1 0 1 && (c.f2 == 0)
 else false
theorem within_f (x lo hi : Int) : impl_within.f x lo hi = some (inI x lo hi) := by
 unfold impl_within.f inI
 by_cases h1 : lo ≤ x <;> by_cases h2 : x ≤ hi <;> simp [h1, h2]
theorem isHidden_f (n : Int) : impl_isHidden.f n = some (inI n 1 4) := by
 unfold impl_isHidden.f
 rw [within_f]
 rfl
theorem isClue_in (x lo hi : Int) (q : Bool) (h : inI x lo hi = q) (w : World) : Calls Tryz.prog 108 #[.int .i64 x, .int .i64 lo, .int .i64 hi] w fun e w' => e = .returned (.bool q) ∧ w' = w := by
 subst h
 by_cases h1 : lo ≤ x
 ·have e : inI x lo hi = decide (x ≤ hi) := by simp [inI, h1]
  have hd : decide (lo ≤ x) = true := decide_eq_true h1
  rw [e]
  clear e h1
  go_enter Tryz.func108, Tryz.ntmps108
  go_wp2
  go_ret
  exact ⟨rfl, rfl⟩
 ·have e : inI x lo hi = false := by simp [inI, h1]
  have hd : decide (lo ≤ x) = false := decide_eq_false h1
  rw [e]
  clear e h1
  go_enter Tryz.func108, Tryz.ntmps108
  go_wp2
  go_ret
  exact ⟨rfl, rfl⟩
set_option maxRecDepth 100000 in
set_option maxHeartbeats 4000000 in
theorem isClue_0 (n a b : Int) (hn : 1 ≤ n) (hn4 : n ≤ 4) (w : World) : Calls Tryz.prog 95 #[.int .i64 n, .agg #[.int .i64 0, .int .i64 a, .int .i64 b]] w fun e w' => e = .returned (.bool (inI a 0 (2 ^ n.toNat - 1) && inI b 0 1)) ∧ Below w.heap.size w w' := by
 have hu86 := Tryz.underlying86
 have HID := Aside0.mk (fun w => impl_isHidden.calls n true w (by rw [isHidden_f]; congr 1; exact decide_eq_true ⟨hn, hn4⟩))
 have HF := Aside0.mk ((Below.refl w.heap.size w).alloc (Nat.le_refl _) (.cells #[.int .i64 0, .int .i64 a, .int .i64 b] 86))
 have h4 : n = 1 ∨ n = 2 ∨ n = 3 ∨ n = 4 := by omega
 rcases h4 with rfl | rfl | rfl | rfl
 ·obtain ⟨q1, h1⟩ : ∃ q, inI a 0 1 = q := ⟨_, rfl⟩
  obtain ⟨q2, h2⟩ : ∃ q, inI b 0 1 = q := ⟨_, rfl⟩
  rw [show ((2 : Int) ^ (1 : Int).toNat - 1) = 1 from rfl, h1, h2]
  have W1 := Aside0.mk (fun w => isClue_in a 0 1 q1 h1 w)
  have W2 := Aside0.mk (fun w => isClue_in b 0 1 q2 h2 w)
  have z1 : IntKind.i64.wrap 2 = 2 := by decide
  have z2 : IntKind.i64.wrap (2 - 1) = 1 := by decide
  have z3 : IntKind.i64.wrap 1 = 1 := by decide
  clear h1 h2
  cases q1 <;> (go_enter Tryz.func95, Tryz.ntmps95; go_wp2_with (go_at_call 93; with_reducible refine (HID.out _).mono ?_; rintro e w' ⟨rfl, hd⟩; obtain ⟨m, rfl⟩ := hd); go_quiet ((first | (go_at_call 108; (with_reducible refine (W1.out _).mono ?_); rintro e w' ⟨rfl, rfl⟩; exact ⟨rfl, _, rfl⟩) | (go_at_call 108; (with_reducible refine (W2.out _).mono ?_); rintro e w' ⟨rfl, rfl⟩; exact ⟨rfl, _, rfl⟩))); go_wp2; go_ret; exact ⟨rfl, by (repeat (first | apply pw_below_drewN | apply below_drew)); exact HF.out⟩)
 ·obtain ⟨q1, h1⟩ : ∃ q, inI a 0 3 = q := ⟨_, rfl⟩
  obtain ⟨q2, h2⟩ : ∃ q, inI b 0 1 = q := ⟨_, rfl⟩
  rw [show ((2 : Int) ^ (2 : Int).toNat - 1) = 3 from rfl, h1, h2]
  have W1 := Aside0.mk (fun w => isClue_in a 0 3 q1 h1 w)
  have W2 := Aside0.mk (fun w => isClue_in b 0 1 q2 h2 w)
  have z1 : IntKind.i64.wrap 4 = 4 := by decide
  have z2 : IntKind.i64.wrap (4 - 1) = 3 := by decide
  have z3 : IntKind.i64.wrap 3 = 3 := by decide
  clear h1 h2
  cases q1 <;> (go_enter Tryz.func95, Tryz.ntmps95; go_wp2_with (go_at_call 93; with_reducible refine (HID.out _).mono ?_; rintro e w' ⟨rfl, hd⟩; obtain ⟨m, rfl⟩ := hd); go_quiet ((first | (go_at_call 108; (with_reducible refine (W1.out _).mono ?_); rintro e w' ⟨rfl, rfl⟩; exact ⟨rfl, _, rfl⟩) | (go_at_call 108; (with_reducible refine (W2.out _).mono ?_); rintro e w' ⟨rfl, rfl⟩; exact ⟨rfl, _, rfl⟩))); go_wp2; go_ret; exact ⟨rfl, by (repeat (first | apply pw_below_drewN | apply below_drew)); exact HF.out⟩)
 ·obtain ⟨q1, h1⟩ : ∃ q, inI a 0 7 = q := ⟨_, rfl⟩
  obtain ⟨q2, h2⟩ : ∃ q, inI b 0 1 = q := ⟨_, rfl⟩
  rw [show ((2 : Int) ^ (3 : Int).toNat - 1) = 7 from rfl, h1, h2]
  have W1 := Aside0.mk (fun w => isClue_in a 0 7 q1 h1 w)
  have W2 := Aside0.mk (fun w => isClue_in b 0 1 q2 h2 w)
  have z1 : IntKind.i64.wrap 8 = 8 := by decide
  have z2 : IntKind.i64.wrap (8 - 1) = 7 := by decide
  have z3 : IntKind.i64.wrap 7 = 7 := by decide
  clear h1 h2
  cases q1 <;> (go_enter Tryz.func95, Tryz.ntmps95; go_wp2_with (go_at_call 93; with_reducible refine (HID.out _).mono ?_; rintro e w' ⟨rfl, hd⟩; obtain ⟨m, rfl⟩ := hd); go_quiet ((first | (go_at_call 108; (with_reducible refine (W1.out _).mono ?_); rintro e w' ⟨rfl, rfl⟩; exact ⟨rfl, _, rfl⟩) | (go_at_call 108; (with_reducible refine (W2.out _).mono ?_); rintro e w' ⟨rfl, rfl⟩; exact ⟨rfl, _, rfl⟩))); go_wp2; go_ret; exact ⟨rfl, by (repeat (first | apply pw_below_drewN | apply below_drew)); exact HF.out⟩)
 ·obtain ⟨q1, h1⟩ : ∃ q, inI a 0 15 = q := ⟨_, rfl⟩
  obtain ⟨q2, h2⟩ : ∃ q, inI b 0 1 = q := ⟨_, rfl⟩
  rw [show ((2 : Int) ^ (4 : Int).toNat - 1) = 15 from rfl, h1, h2]
  have W1 := Aside0.mk (fun w => isClue_in a 0 15 q1 h1 w)
  have W2 := Aside0.mk (fun w => isClue_in b 0 1 q2 h2 w)
  have z1 : IntKind.i64.wrap 16 = 16 := by decide
  have z2 : IntKind.i64.wrap (16 - 1) = 15 := by decide
  have z3 : IntKind.i64.wrap 15 = 15 := by decide
  clear h1 h2
  cases q1 <;> (go_enter Tryz.func95, Tryz.ntmps95; go_wp2_with (go_at_call 93; with_reducible refine (HID.out _).mono ?_; rintro e w' ⟨rfl, hd⟩; obtain ⟨m, rfl⟩ := hd); go_quiet ((first | (go_at_call 108; (with_reducible refine (W1.out _).mono ?_); rintro e w' ⟨rfl, rfl⟩; exact ⟨rfl, _, rfl⟩) | (go_at_call 108; (with_reducible refine (W2.out _).mono ?_); rintro e w' ⟨rfl, rfl⟩; exact ⟨rfl, _, rfl⟩))); go_wp2; go_ret; exact ⟨rfl, by (repeat (first | apply pw_below_drewN | apply below_drew)); exact HF.out⟩)
set_option maxRecDepth 100000 in
set_option maxHeartbeats 4000000 in
theorem isClue_1 (n a b : Int) (hn : 1 ≤ n) (hn4 : n ≤ 4) (w : World) : Calls Tryz.prog 95 #[.int .i64 n, .agg #[.int .i64 1, .int .i64 a, .int .i64 b]] w fun e w' => e = .returned (.bool (inI a 1 15 && (b == 0))) ∧ Below w.heap.size w w' := by
 have hu86 := Tryz.underlying86
 have HID := Aside0.mk (fun w => impl_isHidden.calls n true w (by rw [isHidden_f]; congr 1; exact decide_eq_true ⟨hn, hn4⟩))
 have HF := Aside0.mk ((Below.refl w.heap.size w).alloc (Nat.le_refl _) (.cells #[.int .i64 1, .int .i64 a, .int .i64 b] 86))
 obtain ⟨q1, h1⟩ : ∃ q, inI a 1 15 = q := ⟨_, rfl⟩
 rw [h1]
 have W1 := Aside0.mk (fun w => isClue_in a 1 15 q1 h1 w)
 clear h1
 cases q1 <;> (go_enter Tryz.func95, Tryz.ntmps95; go_wp2_with (first | (go_at_call 93; with_reducible refine (HID.out _).mono ?_; rintro e w' ⟨rfl, hd⟩; obtain ⟨m, rfl⟩ := hd) | (go_at_call 108; with_reducible refine (W1.out _).mono ?_; rintro e w' ⟨rfl, rfl⟩)); go_ret; exact ⟨rfl, by (repeat (first | apply pw_below_drewN | apply below_drew)); exact HF.out⟩)
set_option maxRecDepth 100000 in
set_option maxHeartbeats 4000000 in
theorem isClue_2 (n a b : Int) (hn : 1 ≤ n) (hn4 : n ≤ 4) (w : World) : Calls Tryz.prog 95 #[.int .i64 n, .agg #[.int .i64 2, .int .i64 a, .int .i64 b]] w fun e w' => e = .returned (.bool (inI a 0 (n - 1) && inI b 0 1)) ∧ Below w.heap.size w w' := by
 have hu86 := Tryz.underlying86
 have HID := Aside0.mk (fun w => impl_isHidden.calls n true w (by rw [isHidden_f]; congr 1; exact decide_eq_true ⟨hn, hn4⟩))
 have HF := Aside0.mk ((Below.refl w.heap.size w).alloc (Nat.le_refl _) (.cells #[.int .i64 2, .int .i64 a, .int .i64 b] 86))
 obtain ⟨q1, h1⟩ : ∃ q, inI a 0 (n - 1) = q := ⟨_, rfl⟩
 obtain ⟨q2, h2⟩ : ∃ q, inI b 0 1 = q := ⟨_, rfl⟩
 rw [h1, h2]
 have W1 := Aside0.mk (fun w => isClue_in a 0 (n - 1) q1 h1 w)
 have W2 := Aside0.mk (fun w => isClue_in b 0 1 q2 h2 w)
 clear h1 h2
 cases q1 <;> (go_enter Tryz.func95, Tryz.ntmps95; go_wp2_with (first | (go_at_call 93; with_reducible refine (HID.out _).mono ?_; rintro e w' ⟨rfl, hd⟩; obtain ⟨m, rfl⟩ := hd) | (go_at_call 108; with_reducible refine (W1.out _).mono ?_; rintro e w' ⟨rfl, rfl⟩) | (go_at_call 108; with_reducible refine (W2.out _).mono ?_; rintro e w' ⟨rfl, rfl⟩)); go_ret; exact ⟨rfl, by (repeat (first | apply pw_below_drewN | apply below_drew)); exact HF.out⟩)
set_option maxRecDepth 100000 in
set_option maxHeartbeats 4000000 in
theorem isClue_3 (n a b : Int) (hn : 1 ≤ n) (hn4 : n ≤ 4) (w : World) : Calls Tryz.prog 95 #[.int .i64 n, .agg #[.int .i64 3, .int .i64 a, .int .i64 b]] w fun e w' => e = .returned (.bool (inI a 0 (n - 1) && inI b 0 8)) ∧ Below w.heap.size w w' := by
 have hu86 := Tryz.underlying86
 have HID := Aside0.mk (fun w => impl_isHidden.calls n true w (by rw [isHidden_f]; congr 1; exact decide_eq_true ⟨hn, hn4⟩))
 have HF := Aside0.mk ((Below.refl w.heap.size w).alloc (Nat.le_refl _) (.cells #[.int .i64 3, .int .i64 a, .int .i64 b] 86))
 obtain ⟨q1, h1⟩ : ∃ q, inI a 0 (n - 1) = q := ⟨_, rfl⟩
 obtain ⟨q2, h2⟩ : ∃ q, inI b 0 8 = q := ⟨_, rfl⟩
 rw [h1, h2]
 have W1 := Aside0.mk (fun w => isClue_in a 0 (n - 1) q1 h1 w)
 have W2 := Aside0.mk (fun w => isClue_in b 0 8 q2 h2 w)
 clear h1 h2
 cases q1 <;> (go_enter Tryz.func95, Tryz.ntmps95; go_wp2_with (first | (go_at_call 93; with_reducible refine (HID.out _).mono ?_; rintro e w' ⟨rfl, hd⟩; obtain ⟨m, rfl⟩ := hd) | (go_at_call 108; with_reducible refine (W1.out _).mono ?_; rintro e w' ⟨rfl, rfl⟩) | (go_at_call 108; with_reducible refine (W2.out _).mono ?_; rintro e w' ⟨rfl, rfl⟩)); go_ret; exact ⟨rfl, by (repeat (first | apply pw_below_drewN | apply below_drew)); exact HF.out⟩)
set_option maxRecDepth 100000 in
set_option maxHeartbeats 4000000 in
theorem isClue_4 (n a b : Int) (hn : 1 ≤ n) (hn4 : n ≤ 4) (w : World) : Calls Tryz.prog 95 #[.int .i64 n, .agg #[.int .i64 4, .int .i64 a, .int .i64 b]] w fun e w' => e = .returned (.bool (inI a 0 1 && (b == 0))) ∧ Below w.heap.size w w' := by
 have hu86 := Tryz.underlying86
 have HID := Aside0.mk (fun w => impl_isHidden.calls n true w (by rw [isHidden_f]; congr 1; exact decide_eq_true ⟨hn, hn4⟩))
 have HF := Aside0.mk ((Below.refl w.heap.size w).alloc (Nat.le_refl _) (.cells #[.int .i64 4, .int .i64 a, .int .i64 b] 86))
 obtain ⟨q1, h1⟩ : ∃ q, inI a 0 1 = q := ⟨_, rfl⟩
 rw [h1]
 have W1 := Aside0.mk (fun w => isClue_in a 0 1 q1 h1 w)
 clear h1
 cases q1 <;> (go_enter Tryz.func95, Tryz.ntmps95; go_wp2_with (first | (go_at_call 93; with_reducible refine (HID.out _).mono ?_; rintro e w' ⟨rfl, hd⟩; obtain ⟨m, rfl⟩ := hd) | (go_at_call 108; with_reducible refine (W1.out _).mono ?_; rintro e w' ⟨rfl, rfl⟩)); go_ret; exact ⟨rfl, by (repeat (first | apply pw_below_drewN | apply below_drew)); exact HF.out⟩)
set_option maxRecDepth 100000 in
set_option maxHeartbeats 4000000 in
theorem isClue_5 (n a b : Int) (hn : 1 ≤ n) (hn4 : n ≤ 4) (w : World) : Calls Tryz.prog 95 #[.int .i64 n, .agg #[.int .i64 5, .int .i64 a, .int .i64 b]] w fun e w' => e = .returned (.bool (inI a 0 1 && (b == 0))) ∧ Below w.heap.size w w' := by
 have hu86 := Tryz.underlying86
 have HID := Aside0.mk (fun w => impl_isHidden.calls n true w (by rw [isHidden_f]; congr 1; exact decide_eq_true ⟨hn, hn4⟩))
 have HF := Aside0.mk ((Below.refl w.heap.size w).alloc (Nat.le_refl _) (.cells #[.int .i64 5, .int .i64 a, .int .i64 b] 86))
 obtain ⟨q1, h1⟩ : ∃ q, inI a 0 1 = q := ⟨_, rfl⟩
 rw [h1]
 have W1 := Aside0.mk (fun w => isClue_in a 0 1 q1 h1 w)
 clear h1
 cases q1 <;> (go_enter Tryz.func95, Tryz.ntmps95; go_wp2_with (first | (go_at_call 93; with_reducible refine (HID.out _).mono ?_; rintro e w' ⟨rfl, hd⟩; obtain ⟨m, rfl⟩ := hd) | (go_at_call 108; with_reducible refine (W1.out _).mono ?_; rintro e w' ⟨rfl, rfl⟩)); go_ret; exact ⟨rfl, by (repeat (first | apply pw_below_drewN | apply below_drew)); exact HF.out⟩)
set_option maxRecDepth 100000 in
set_option maxHeartbeats 4000000 in
theorem isClue_x (n k a b : Int) (hn : inI n 1 4 = true) (h0 : (k == 0) = false) (h1 : (k == 1) = false) (h2 : (k == 2) = false) (h3 : (k == 3) = false) (h4 : (k == 4) = false) (h5 : (k == 5) = false) (w : World) : Calls Tryz.prog 95 #[.int .i64 n, .agg #[.int .i64 k, .int .i64 a, .int .i64 b]] w fun e w' => e = .returned (.bool false) ∧ Below w.heap.size w w' := by
 have hu86 := Tryz.underlying86
 have HID := Aside0.mk (fun w => impl_isHidden.calls n true w (by rw [isHidden_f, hn]))
 clear hn
 have HF := Aside0.mk ((Below.refl w.heap.size w).alloc (Nat.le_refl _) (.cells #[.int .i64 k, .int .i64 a, .int .i64 b] 86))
 go_enter Tryz.func95, Tryz.ntmps95
 go_wp2_with (go_at_call 93; with_reducible refine (HID.out _).mono ?_; rintro e w' ⟨rfl, hd⟩; obtain ⟨m, rfl⟩ := hd)
 go_ret
 exact ⟨rfl, by (repeat (first | apply pw_below_drewN | apply below_drew)); exact HF.out⟩
set_option maxRecDepth 100000 in
set_option maxHeartbeats 4000000 in
theorem isClue_no (n k a b : Int) (hn : inI n 1 4 = false) (w : World) : Calls Tryz.prog 95 #[.int .i64 n, .agg #[.int .i64 k, .int .i64 a, .int .i64 b]] w fun e w' => e = .returned (.bool false) ∧ Below w.heap.size w w' := by
 have hu86 := Tryz.underlying86
 have HID := Aside0.mk (fun w => impl_isHidden.calls n false w (by rw [isHidden_f, hn]))
 clear hn
 have HF := Aside0.mk ((Below.refl w.heap.size w).alloc (Nat.le_refl _) (.cells #[.int .i64 k, .int .i64 a, .int .i64 b] 86))
 go_enter Tryz.func95, Tryz.ntmps95
 go_wp2_with (go_at_call 93; with_reducible refine (HID.out _).mono ?_; rintro e w' ⟨rfl, hd⟩; obtain ⟨m, rfl⟩ := hd)
 go_ret
 exact ⟨rfl, by (repeat (first | apply pw_below_drewN | apply below_drew)); exact HF.out⟩
theorem isClue_any (n : Int) (hn : inI n 1 4 = true) (c : S86) (w : World) : Calls Tryz.prog 95 #[.int .i64 n, .agg #[.int .i64 c.f0, .int .i64 c.f1, .int .i64 c.f2]] w fun e w' => e = .returned (.bool (clueB n c)) ∧ Below w.heap.size w w' := by
 have hi := of_decide_eq_true hn
 obtain ⟨k, a, b⟩ := c
 simp only [clueB]
 by_cases h0 : k = 0
 ·subst h0
  simp only [if_true, if_false]
  exact isClue_0 n a b hi.1 hi.2 w
 by_cases h1 : k = 1
 ·subst h1
  simp only [show ¬ (1 : Int) = 0 by decide, if_true, if_false]
  exact isClue_1 n a b hi.1 hi.2 w
 by_cases h2 : k = 2
 ·subst h2
  simp only [show ¬ (2 : Int) = 0 by decide, show ¬ (2 : Int) = 1 by decide, if_true, if_false]
  exact isClue_2 n a b hi.1 hi.2 w
 by_cases h3 : k = 3
 ·subst h3
  simp only [show ¬ (3 : Int) = 0 by decide, show ¬ (3 : Int) = 1 by decide, show ¬ (3 : Int) = 2 by decide, if_true, if_false]
  exact isClue_3 n a b hi.1 hi.2 w
 by_cases h4 : k = 4
 ·subst h4
  simp only [show ¬ (4 : Int) = 0 by decide, show ¬ (4 : Int) = 1 by decide, show ¬ (4 : Int) = 2 by decide, show ¬ (4 : Int) = 3 by decide, true_or, if_true, if_false]
  exact isClue_4 n a b hi.1 hi.2 w
 by_cases h5 : k = 5
 ·subst h5
  simp only [show ¬ (5 : Int) = 0 by decide, show ¬ (5 : Int) = 1 by decide, show ¬ (5 : Int) = 2 by decide, show ¬ (5 : Int) = 3 by decide, show ¬ (5 : Int) = 4 by decide, or_true, if_true, if_false]
  exact isClue_5 n a b hi.1 hi.2 w
 ·simp only [h0, h1, h2, h3, h4, h5, if_false, or_self]
  exact isClue_x n k a b hn (beq_eq_false_iff_ne.mpr h0) (beq_eq_false_iff_ne.mpr h1) (beq_eq_false_iff_ne.mpr h2) (beq_eq_false_iff_ne.mpr h3) (beq_eq_false_iff_ne.mpr h4) (beq_eq_false_iff_ne.mpr h5) w
def impl_IsClue.f (a0 : Int) (a1_0 : Int) (a1_1 : Int) (a1_2 : Int) : Option (Bool) := some (inI a0 1 4 && clueB a0 ⟨a1_0, a1_1, a1_2⟩)
theorem impl_IsClue.calls (a0 : Int) (a1_0 : Int) (a1_1 : Int) (a1_2 : Int) (r : Bool) (w : World) (h : impl_IsClue.f a0 a1_0 a1_1 a1_2 = some r) :
  Calls Tryz.prog 95 #[.int .i64 a0, .agg #[.int .i64 a1_0, .int .i64 a1_1, .int .i64 a1_2]] w fun e w' => e = .returned (.bool r) ∧ Below w.heap.size w w' := by
 obtain rfl := Option.some.inj h
 cases hn : inI a0 1 4 with
 | false => exact isClue_no a0 a1_0 a1_1 a1_2 hn w
 | true => exact isClue_any a0 hn ⟨a1_0, a1_1, a1_2⟩ w
end Go.Proofs.YtnncjnjfdhbddaaGreat.Z
namespace Go.Proofs.YtnncjnjfdhbddaaGreat.Z
open Go.RowKit Go.Proofs.YtnncjnjfdhbddaaGreatW.PrintWords Go.Proofs.YtnncjnjfdhbddaaGreatW.PrintLast Go.Proofs.YtnncjnjfdhbddaaGreatW.PrintMore
attribute [local go_sem] max2_int min2_int max_two min_two max_three min_three max_four min_four
set_option linter.unusedVariables false
set_option linter.unusedSimpArgs false
def puzzB (n : Int) (l : List S86) : Bool := inI n 1 4 && (decide (l.length ≤ 8) && l.all (clueB n))
theorem hidden_f (n : Int) : impl_isHidden.f n = some (inI n 1 4) := isHidden_f n
theorem isClue_f (n : Int) (h : inI n 1 4 = true) (c : S86) : impl_IsClue.f n c.f0 c.f1 c.f2 = some (clueB n c) := by
 rw [impl_IsClue.f, h]; rfl
theorem isPuzzle_fn (n : Int) (hn : inI n 1 4 = true) (x : S86) (b : Nat) (v : Value) (W : World) (hb : W.heap[b]? = some (.cells #[.int .i64 n, v] 41 (0, 0))) :
  Calls Tryz.prog 94 #[.agg #[.int .i64 x.f0, .int .i64 x.f1, .int .i64 x.f2], .pointer (some ⟨b, 0, none⟩)] W fun e w' => e = .returned (.bool (!(clueB n x))) ∧ Below W.heap.size W w' := by
 have hu41 := Tryz.underlying41
 have hu86 := Tryz.underlying86
 have hc := fun w => impl_IsClue.calls n x.f0 x.f1 x.f2 _ w (isClue_f n hn x)
 have HC := Aside0.mk hc
 clear hc
 generalize clueB n x = q at HC ⊢
 have hc0 : ∀ o, (W.alloc o).cell? ⟨b, 0, none⟩ = some (.int .i64 n) := fun o => (World.cell?_alloc_lt _ _ _ (by simpa using blk_lt hb)).trans ((blk_cell hb 0).trans rfl)
 clear hb
 go_enter Tryz.func94, Tryz.ntmps94
 go_wp2_with (go_at_call 95; refine (HC.out _).mono ?_; rintro e w1 ⟨rfl, hd⟩; have HD := Aside0.mk hd; clear hd)
 go_ret
 exact ⟨rfl, Below.trans ((Below.refl _ _).alloc (Nat.le_refl _) _) (HD.out.mono (by simp))⟩
def impl_IsPuzzle.f (a0_0 : Int) (l0_1 : List (S86)) : Option (Bool) := some (puzzB a0_0 l0_1)
set_option maxHeartbeats 2000000 in
theorem impl_IsPuzzle.calls (a0_0 : Int) (A0_1 : Option Addr) (c0_1 : Nat) (l0_1 : List (S86)) (r : Bool) (w : World) (hr0_1 : Kd.C k86 w A0_1 l0_1.length l0_1) (hc0_1 : l0_1.length ≤ c0_1) (h : impl_IsPuzzle.f a0_0 l0_1 = some r) :
  Calls Tryz.prog 66 #[.agg #[.int .i64 a0_0, .slice A0_1 l0_1.length c0_1]] w fun e w' => e = .returned (.bool r) ∧ Below w.heap.size w w' := by
 obtain rfl := Option.some.inj h
 have hu41 := Tryz.underlying41
 have hh := fun w => impl_isHidden.calls a0_0 _ w (hidden_f a0_0)
 have HH := Aside0.mk hh
 clear hh
 have eg : ∀ args w, (callFunc 94 args).run Tryz.prog w = .ok (.enter 94 args) w := enters_of Tryz.func94 (by kernel_rfl) rfl
 have hcf := fun (hn : inI a0_0 1 4 = true) (W : World) (hB : Below w.heap.size w W) (b : Nat) (hb : W.heap[b]? = some (.cells #[.int .i64 a0_0, .slice A0_1 l0_1.length c0_1] 41 (0, 0))) =>
  containsFunc_cl (fun x => !(clueB a0_0 x)) 94 #[.pointer (some ⟨b, 0, none⟩)] A0_1 c0_1 l0_1 W eg (Kd.C_below hr0_1 hB) (fun W' x hx hB' => isPuzzle_fn a0_0 hn x b _ W' (blk_below hb hB'))
 have HCF := Aside0.mk hcf
 have e1 : l0_1.any (fun x => !(clueB a0_0 x)) = !(l0_1.all (clueB a0_0)) := by rw [List.any_eq_not_all_not]; simp
 rw [puzzB]
 have hm := hr0_1.2.1
 have HR := Aside0.mk hr0_1
 rw [e1] at HCF
 clear hcf eg hr0_1 e1
 generalize l0_1.all (clueB a0_0) = q at HCF ⊢
 cases hn : inI a0_0 1 4 with
 | false =>
  rw [hn] at HH
  go_enter Tryz.func66, Tryz.ntmps66
  go_wp2_with (go_at_call 93; refine (HH.out _).mono ?_; rintro e w1 ⟨rfl, hd⟩; obtain ⟨m, rfl⟩ := hd)
  go_ret
  exact ⟨rfl, pw_below_drewN ((Below.refl _ _).alloc (Nat.le_refl _) _) _⟩
 | true =>
  rw [hn] at HH
  have hcf := HCF.out hn
  clear HCF
  have HCF := Aside0.mk hcf
  clear hcf hn
  by_cases hl : l0_1.length ≤ 8
  ·have hl0 : (l0_1.length : Int) ≤ 8 := by omega
   have hl1 : decide ((l0_1.length : Int) ≤ 8) = true := decide_eq_true (by omega)
   have hl2 : decide (l0_1.length ≤ 8) = true := decide_eq_true hl
   rw [hl2]
   go_enter Tryz.func66, Tryz.ntmps66
   go_wp2_with (first | (go_at_call 93; refine (HH.out _).mono ?_; rintro e w1 ⟨rfl, hd⟩; obtain ⟨m, rfl⟩ := hd) | (go_at_call 88; refine (HCF.out _ (pw_below_drewN ((Below.refl _ _).alloc (Nat.le_refl _) _) _) w.heap.size (blk_drewN (heap1_0 _ _) _)).mono ?_; rintro e w1 ⟨rfl, hd⟩; have HD := Aside0.mk hd; clear hd))
   go_ret
   refine ⟨by simp, Below.trans (pw_below_drewN ((Below.refl _ _).alloc (Nat.le_refl _) _) _) (HD.out.mono (by simp))⟩
  ·have hl0 : ¬ (l0_1.length : Int) ≤ 8 := by omega
   have hl1 : decide ((l0_1.length : Int) ≤ 8) = false := decide_eq_false (by omega)
   have hl2 : decide (l0_1.length ≤ 8) = false := decide_eq_false hl
   rw [hl2]
   go_enter Tryz.func66, Tryz.ntmps66
   go_wp2_with (go_at_call 93; refine (HH.out _).mono ?_; rintro e w1 ⟨rfl, hd⟩; obtain ⟨m, rfl⟩ := hd)
   go_ret
   exact ⟨by simp, pw_below_drewN ((Below.refl _ _).alloc (Nat.le_refl _) _) _⟩
end Go.Proofs.YtnncjnjfdhbddaaGreat.Z
namespace Go.Proofs.YtnncjnjfdhbddaaGreat.Z
open Go.RowKit Go.Proofs.YtnncjnjfdhbddaaGreatW.PrintWords Go.Proofs.YtnncjnjfdhbddaaGreatW.PrintLast Go.Proofs.YtnncjnjfdhbddaaGreatW.PrintMore
attribute [local go_sem] max2_int min2_int max_two min_two max_three min_three max_four min_four
set_option linter.unusedVariables false
set_option linter.unusedSimpArgs false
def lexC {α : Type} (c : α → α → Int) : List α → List α → Int
 | [], [] => 0
 | [], _ :: _ => -1
 | _ :: _, [] => 1
 | a :: s, b :: t => if c a b = 0 then lexC c s t else c a b
def cmpI (a b : Int) : Int := if a < b then -1 else if b < a then 1 else 0
def cmpL (a b : List Int) : Int := lexC cmpI a b
def cmpLL (a b : List (List Int)) : Int := lexC cmpL a b
theorem lexC_drop {α : Type} (c : α → α → Int) (d : α) (l1 l2 : List α) (k : Nat) (h1 : k < l1.length) (h2 : k < l2.length) :
  lexC c (l1.drop k) (l2.drop k) = if c (l1.getD k d) (l2.getD k d) = 0 then lexC c (l1.drop (k + 1)) (l2.drop (k + 1)) else c (l1.getD k d) (l2.getD k d) := by
 rw [List.drop_eq_getElem_cons h1, List.drop_eq_getElem_cons h2]
 simp only [lexC, List.getD_eq_getElem?_getD, List.getElem?_eq_getElem h1, List.getElem?_eq_getElem h2, Option.getD_some]
theorem lexC_long {α : Type} (c : α → α → Int) (l1 l2 : List α) (k : Nat) (h1 : k < l1.length) (h2 : l2.length ≤ k) : lexC c (l1.drop k) (l2.drop k) = 1 := by
 rw [List.drop_eq_getElem_cons h1, List.drop_of_length_le h2]
 rfl
theorem lexC_end {α : Type} (c : α → α → Int) (l1 l2 : List α) (k : Nat) (h1 : l1.length ≤ k) : lexC c (l1.drop k) (l2.drop k) = if k < l2.length then -1 else 0 := by
 rw [List.drop_of_length_le h1]
 split
 ·rename_i h
  rw [List.drop_eq_getElem_cons h]
  rfl
 ·rename_i h
  rw [List.drop_of_length_le (by omega)]
  rfl
set_option maxHeartbeats 2000000 in
theorem compareFunc_any (c : List Int → List Int → Int) (g : Nat) (A1 : Option Addr) (c1 : Nat) (l1 : List (List Int)) (A2 : Option Addr) (c2 : Nat) (l2 : List (List Int)) (w : World)
  (eg : ∀ args w, (callFunc g args).run Tryz.prog w = .ok (.enter g args) w)
  (hr1 : Kd.C (Kd.slice 3 (Kd.int .i64)) w A1 l1.length l1) (hr2 : Kd.C (Kd.slice 3 (Kd.int .i64)) w A2 l2.length l2)
  (hcmp : ∀ (W : World) (x y : List Int) (A0 B0 : Option Addr) (c0 d0 : Nat), x.length ≤ c0 → Kd.C (Kd.int .i64) W A0 x.length x → y.length ≤ d0 → Kd.C (Kd.int .i64) W B0 y.length y → Calls Tryz.prog g #[.slice A0 x.length c0, .slice B0 y.length d0] W fun e w' => e = .returned (.int .i64 (c x y)) ∧ Drawn0 W w') :
  Calls Tryz.prog 149 #[.slice A1 l1.length c1, .slice A2 l2.length c2, .func (.func g) #[] #[]] w fun e w' => e = .returned (.int .i64 (lexC c l1 l2)) ∧ Drawn0 w w' := by
 have HR1 := Aside0.mk hr1
 have HR2 := Aside0.mk hr2
 have HC := Aside0.mk hcmp
 have hm := hr1.2.1
 have hm2 := hr2.2.1
 clear hr1 hr2 hcmp
 go_enter Tryz.func149, Tryz.ntmps149
 go_wp2
 go_loopg [7, 8, 9, 10, 13] l1.length (fun gg _ _ _ _ s13 wr => ∃ kk : Nat, kk ≤ l1.length ∧ kk ≤ l2.length ∧ l1.length - kk ≤ gg ∧ s13 = .int .i64 kk ∧ Aside0 (Drawn0 w wr) ∧ Aside0 (lexC c l1 l2 = lexC c (l1.drop kk) (l2.drop kk)))
 case atStart => exact ⟨0, by omega, by omega, by omega, rfl, ⟨Drawn0.refl _⟩, ⟨rfl⟩⟩
 case round =>
  obtain ⟨kk, hkk, hkk2, hg, rfl, BW, HE⟩ := hrel
  by_cases hlt : kk < l1.length
  ·have hltz : (kk : Int) < (l1.length : Int) := by omega
   have h0z : (0 : Int) ≤ (kk : Int) := by omega
   obtain ⟨ad, A0, c0, e, hcell, hl0, hC0⟩ := at_L1 (Kd.C_below HR1.out BW.out.below) (kk : Int) h0z hltz
   rw [show rd_L1 l1 (kk : Int) = l1.getD kk [] by simp [rd_L1]] at hcell hl0 hC0
   rw [Int.toNat_natCast] at hcell
   subst e
   by_cases hlt2 : kk < l2.length
   ·have hge : ¬ (l2.length : Int) ≤ (kk : Int) := by omega
    have hltz2 : (kk : Int) < (l2.length : Int) := by omega
    obtain ⟨ad2, A02, c02, e, hcell2, hl02, hC02⟩ := at_L1 (Kd.C_below HR2.out BW.out.below) (kk : Int) h0z hltz2
    rw [show rd_L1 l2 (kk : Int) = l2.getD kk [] by simp [rd_L1]] at hcell2 hl02 hC02
    rw [Int.toNat_natCast] at hcell2
    subst e
    have hcall := HC.out wr _ _ _ _ _ _ hl0 hC0 hl02 hC02
    have hst := lexC_drop c [] l1 l2 kk hlt hlt2
    generalize l1.getD kk [] = x at *
    generalize l2.getD kk [] = y at *
    clear hl0 hC0 hl02 hC02
    generalize c x y = q at *
    by_cases hq : q = 0
    ·rw [if_pos hq] at hst
     subst hq
     have HST := Aside0.mk hst
     clear hst
     go_wp2_with (go_at_fn g; refine hcall.mono ?_; rintro e w' ⟨rfl, ⟨nd, rfl⟩⟩)
     go_roundg (l1.length - (kk + 1))
     case measure => omega
     case rel => exact ⟨kk + 1, by omega, by omega, by omega, by go_num, ⟨Drawn0.step BW.out _⟩, ⟨HE.out.trans HST.out⟩⟩
    ·rw [if_neg hq] at hst
     have hq2 : (q == 0) = false := beq_eq_false_iff_ne.mpr hq
     have hq3 : (q != 0) = true := bne_iff_ne.mpr hq
     have HST := Aside0.mk hst
     clear hst hq
     go_wp2_with (go_at_fn g; refine hcall.mono ?_; rintro e w' ⟨rfl, ⟨nd, rfl⟩⟩)
     go_ret
     exact ⟨by rw [HE.out, HST.out]; rfl, Drawn0.step BW.out _⟩
   ·have hge : (l2.length : Int) ≤ (kk : Int) := by omega
    have HST := Aside0.mk (lexC_long c l1 l2 kk hlt (by omega))
    go_wp2
    go_ret
    exact ⟨by rw [HE.out, HST.out]; rfl, BW.out⟩
  ·have hltz : ¬ (kk : Int) < (l1.length : Int) := by omega
   have hk : kk = l1.length := by omega
   subst hk
   have HST := Aside0.mk (lexC_end c l1 l2 l1.length (Nat.le_refl _))
   by_cases hlt2 : l1.length < l2.length
   ·have hl : (l1.length : Int) < (l2.length : Int) := by omega
    go_wp2
    go_ret
    exact ⟨by rw [HE.out, HST.out, if_pos hlt2]; rfl, BW.out⟩
   ·have hl : ¬ (l1.length : Int) < (l2.length : Int) := by omega
    go_wp2
    go_ret
    exact ⟨by rw [HE.out, HST.out, if_neg hlt2]; rfl, BW.out⟩
end Go.Proofs.YtnncjnjfdhbddaaGreat.Z
namespace Go.Proofs.YtnncjnjfdhbddaaGreat.Z
open Go.RowKit Go.Proofs.YtnncjnjfdhbddaaGreatW.PrintWords Go.Proofs.YtnncjnjfdhbddaaGreatW.PrintLast Go.Proofs.YtnncjnjfdhbddaaGreatW.PrintMore
attribute [local go_sem] max2_int min2_int max_two min_two max_three min_three max_four min_four
set_option linter.unusedVariables false
set_option linter.unusedSimpArgs false
structure Cmp {α : Type} (c : α → α → Int) : Prop where
 eq : ∀ a b, c a b = 0 ↔ a = b
 anti : ∀ a b, c a b < 0 ↔ 0 < c b a
 trans : ∀ a b d, c a b < 0 → c b d < 0 → c a d < 0
theorem Cmp.int : Cmp cmpI := ⟨fun a b => by unfold cmpI; (repeat' split) <;> omega, fun a b => by unfold cmpI; (repeat' split) <;> omega, fun a b d => by unfold cmpI; (repeat' split) <;> omega⟩
theorem lexC_eq {α : Type} {c : α → α → Int} (h : Cmp c) : ∀ l1 l2 : List α, lexC c l1 l2 = 0 ↔ l1 = l2
 | [], [] => by simp [lexC]
 | [], _ :: _ => by simp [lexC]
 | _ :: _, [] => by simp [lexC]
 | a :: s, b :: t => by
  simp only [lexC]
  split
  ·rename_i h0
   rw [lexC_eq h s t, (h.eq a b).1 h0]
   simp
  ·rename_i h0
   constructor
   ·intro h1; exact absurd h1 h0
   ·intro h1; injection h1 with h1 _; exact absurd ((h.eq a b).2 h1) h0
theorem lexC_anti {α : Type} {c : α → α → Int} (h : Cmp c) : ∀ l1 l2 : List α, lexC c l1 l2 < 0 ↔ 0 < lexC c l2 l1
 | [], [] => by simp [lexC]
 | [], _ :: _ => by simp [lexC]
 | _ :: _, [] => by simp [lexC]
 | a :: s, b :: t => by
  simp only [lexC]
  by_cases h0 : c a b = 0
  ·have h1 : c b a = 0 := (h.eq b a).2 ((h.eq a b).1 h0).symm
   rw [if_pos h0, if_pos h1]
   exact lexC_anti h s t
  ·have h1 : ¬ c b a = 0 := fun e => h0 ((h.eq a b).2 ((h.eq b a).1 e).symm)
   rw [if_neg h0, if_neg h1]
   exact h.anti a b
theorem lexC_trans {α : Type} {c : α → α → Int} (h : Cmp c) : ∀ l1 l2 l3 : List α, lexC c l1 l2 < 0 → lexC c l2 l3 < 0 → lexC c l1 l3 < 0
 | [], [], _ => by simp [lexC]
 | [], _ :: _, [] => by simp [lexC]
 | [], _ :: _, _ :: _ => by simp [lexC]
 | _ :: _, [], _ => by simp [lexC]
 | _ :: _, _ :: _, [] => by simp [lexC]
 | a :: s, b :: t, d :: u => by
  simp only [lexC]
  by_cases h1 : c a b = 0
  ·obtain rfl := (h.eq a b).1 h1
   rw [if_pos h1]
   by_cases h2 : c a d = 0
   ·rw [if_pos h2, if_pos h2]
    exact lexC_trans h s t u
   ·rw [if_neg h2, if_neg h2]
    exact fun _ hd => hd
  ·rw [if_neg h1]
   by_cases h2 : c b d = 0
   ·obtain rfl := (h.eq b d).1 h2
    rw [if_pos h2, if_neg h1]
    exact fun hd _ => hd
   ·rw [if_neg h2]
    intro ha hb
    have hd := h.trans a b d ha hb
    rw [if_neg (by omega)]
    exact hd
theorem Cmp.lex {α : Type} {c : α → α → Int} (h : Cmp c) : Cmp (lexC c) := ⟨lexC_eq h, lexC_anti h, lexC_trans h⟩
theorem Cmp.L : Cmp cmpL := Cmp.int.lex
theorem Cmp.LL : Cmp cmpLL := Cmp.L.lex
def leB {α : Type} (c : α → α → Int) (a b : α) : Bool := decide (¬ c b a < 0)
theorem Cmp.le_trans {α : Type} {c : α → α → Int} (h : Cmp c) (a b d : α) (h1 : leB c a b = true) (h2 : leB c b d = true) : leB c a d = true := by
 simp only [leB, decide_eq_true_eq] at *
 intro h3
 by_cases e1 : c a b = 0
 ·obtain rfl := (h.eq a b).1 e1; exact h2 h3
 ·by_cases e2 : c b d = 0
  ·obtain rfl := (h.eq b d).1 e2; exact h1 h3
  ·have a1 : c a b < 0 := by
    have := mt (h.anti b a).2 h1
    omega
   have a2 : c b d < 0 := by
    have := mt (h.anti d b).2 h2
    omega
   have a3 := h.trans a b d a1 a2
   have := (h.anti d a).1 h3
   omega
theorem Cmp.le_total {α : Type} {c : α → α → Int} (h : Cmp c) (a b : α) : (leB c a b || leB c b a) = true := by
 simp only [leB, Bool.or_eq_true, decide_eq_true_eq]
 have := h.anti a b
 have := h.anti b a
 omega
theorem Cmp.le_anti {α : Type} {c : α → α → Int} (h : Cmp c) (a b : α) (h1 : leB c a b = true) (h2 : leB c b a = true) : a = b := by
 simp only [leB, decide_eq_true_eq] at *
 have := h.anti a b
 have := h.anti b a
 exact (h.eq a b).1 (by omega)
def sortC {α : Type} (c : α → α → Int) (l : List α) : List α := l.mergeSort (leB c)
theorem sortC_unique {α : Type} {c : α → α → Int} (h : Cmp c) {l l' : List α} (hp : l'.Perm l) (hs : l'.Pairwise fun a b => leB c a b = true) : l' = sortC c l :=
 List.Perm.eq_of_pairwise (fun a b _ _ h1 h2 => h.le_anti a b h1 h2) hs (List.pairwise_mergeSort h.le_trans h.le_total l) (hp.trans (List.mergeSort_perm l _).symm)
theorem sortC_perm {α : Type} (c : α → α → Int) (l : List α) : (sortC c l).Perm l := List.mergeSort_perm l _
theorem sortC_sorted {α : Type} {c : α → α → Int} (h : Cmp c) (l : List α) : (sortC c l).Pairwise fun a b => leB c a b = true := List.pairwise_mergeSort h.le_trans h.le_total l
end Go.Proofs.YtnncjnjfdhbddaaGreat.Z
namespace Go.Proofs.YtnncjnjfdhbddaaGreat.Z
open Go.RowKit Go.Proofs.YtnncjnjfdhbddaaGreatW.PrintWords Go.Proofs.YtnncjnjfdhbddaaGreatW.PrintLast Go.Proofs.YtnncjnjfdhbddaaGreatW.PrintMore
attribute [local go_sem] max2_int min2_int max_two min_two max_three min_three max_four min_four
set_option linter.unusedVariables false
set_option linter.unusedSimpArgs false
set_option maxRecDepth 100000 in
set_option maxHeartbeats 1000000 in
theorem setOf_any (m : Nat) (hm : m < 2 ^ 62) (w : World) :
  Calls Tryz.prog 136 #[.int .i64 (m : Int)] w fun e w' => ∃ v : Value, e = .returned v ∧ Kd.R (Kd.int .i64) 3 w' w.heap.size (fun _ => True) v (setI m) ∧ Below w.heap.size w w' := by
 have HM := Aside0.mk hm
 clear hm
 go_enter Tryz.func136, Tryz.ntmps136
 go_wp2
 go_loopg [3, 4] 62 (fun gg v3 s4 wr => ∃ kk : Nat, kk ≤ 62 ∧ 62 - kk ≤ gg ∧ s4 = .int .i64 kk ∧ Aside0 (Below w.heap.size w wr) ∧ Aside0 (Kd.R (Kd.int .i64) 3 wr w.heap.size (fun _ => True) v3 (setUpto m kk)))
 case atStart => exact ⟨0, by omega, by omega, rfl, ⟨(Below.refl _ _).alloc (Nat.le_refl _) _⟩, ⟨Kd.R_of_own (xs := []) ⟨rfl, .inr ⟨w.heap.size, 0, #[], rfl, Nat.le_refl _, heap1_0 _ _, Nat.le_refl _, by simp [maxLen], rfl, rfl⟩⟩ (fun _ _ => trivial)⟩⟩
 case round =>
  obtain ⟨kk, hkk, hg, rfl, BW, HO⟩ := hrel
  have h0 : (0 : Int) ≤ (kk : Int) := by omega
  have hlen := setUpto_len m kk
  have hz : kk = 62 → m >>> kk = 0 := fun e => by rw [e, Nat.shiftRight_eq_div_pow]; exact Nat.div_eq_of_lt HM.out
  have hq63 : m >>> kk < 2 ^ 63 := Nat.lt_of_le_of_lt (Nat.shiftRight_le m kk) (Nat.lt_trans HM.out (by decide))
  have hb0 := and_one_nat _ hq63
  have hb1 := shift_bit m kk
  have h1 := shiftI m kk
  have hend := setUpto_all (m := m) (kk := kk)
  generalize m >>> kk = q at hz hb0 hb1 h1 hend
  rw [hb1] at hb0
  have HE := Aside0.mk hend
  clear hend hb1 hq63
  by_cases hp : q = 0
  ·have hpd : decide (0 < q) = false := decide_eq_false (by omega)
   have HQ := Aside0.mk hp
   clear hp hz hb0
   go_wp2
   go_ret
   exact ⟨_, rfl, by rw [← HE.out HQ.out hkk]; exact HO.out, BW.out⟩
  ·have hlt : kk < 62 := by
    rcases Nat.lt_or_ge kk 62 with h | h
    ·exact h
    ·exact absurd (hz (by omega)) hp
   have hpd : decide (0 < q) = true := decide_eq_true (by omega)
   clear hp hz HE
   cases hbit : m.testBit kk with
   | false =>
    rw [hbit, if_neg (by simp)] at hb0
    have HB := Aside0.mk hbit
    clear hbit
    go_wp2
    go_roundg (62 - (kk + 1))
    case measure => omega
    case rel => exact ⟨kk + 1, by omega, by omega, by go_num, BW, ⟨by rw [setUpto_no HB.out]; exact HO.out⟩⟩
   | true =>
    rw [hbit, if_pos rfl] at hb0
    have HB := Aside0.mk hbit
    clear hbit
    go_wp2_with ((with_reducible refine gate_builtin (b := .append) (xs := #[.tmp 17, .tmp 19]) rfl ?_); at_builtin; refine Kd.R_append (Kd.int .i64) (w0 := w) w.heap.size rfl (.tmp 17) (.tmp 19) 36 3 (.int .i64 0) 8 rfl Tryz.underlying36 infoI rfl (by decide) (by omega) u3 (setUpto m kk) (kk : Int) [.int .i64 (kk : Int)] (fun _ => True) (fun _ => False) rfl rfl rfl (fun _ hk => hk.elim) (fun _ _ => trivial) HO.out BW.out BW.out.size (by omega) ?_; intro v1 w1 ho hb hg hat; have HO1 := Aside0.mk ho; have HB1 := Aside0.mk hb; clear ho hb hg hat)
    go_roundg (62 - (kk + 1))
    case measure => omega
    case rel => exact ⟨kk + 1, by omega, by omega, by go_num, HB1, ⟨by rw [setUpto_yes HB.out]; exact HO1.out⟩⟩
end Go.Proofs.YtnncjnjfdhbddaaGreat.Z
namespace Go.Proofs.YtnncjnjfdhbddaaGreat.Z
open Go.RowKit Go.Proofs.YtnncjnjfdhbddaaGreatW.PrintWords Go.Proofs.YtnncjnjfdhbddaaGreatW.PrintLast Go.Proofs.YtnncjnjfdhbddaaGreatW.PrintMore
attribute [local go_sem] max2_int min2_int max_two min_two max_three min_three max_four min_four
set_option linter.unusedVariables false
set_option linter.unusedSimpArgs false
def partS (p : Nat → Bool) (kk : Nat) : List (List Int) := ((List.range kk).filter p).map setI
theorem partS_yes {p : Nat → Bool} {kk : Nat} (h : p kk = true) : partS p (kk + 1) = partS p kk ++ [setI kk] := by simp [partS, List.range_succ, List.filter_append, h]
theorem partS_no {p : Nat → Bool} {kk : Nat} (h : p kk = false) : partS p (kk + 1) = partS p kk := by simp [partS, List.range_succ, List.filter_append, h]
theorem partS_len (p : Nat → Bool) (kk : Nat) : (partS p kk).length ≤ kk := by
 unfold partS
 rw [List.length_map]
 exact Nat.le_trans (List.length_filter_le _ _) (by simp)
def SortsSets (srt : List (List Int) → List (List Int)) : Prop :=
 ∀ (W : World) (base : Nat) (v : Value) (xs : List (List Int)), xs.length ≤ 512 → Kd.S (Kd.slice 3 (Kd.int .i64)) 36 W base (fun _ => True) v xs →
  Calls Tryz.prog 137 #[v, .func (.func 110) #[] #[]] W fun e w' => e = .returned (.tuple #[]) ∧ Kd.S (Kd.slice 3 (Kd.int .i64)) 36 w' base (fun _ => True) v (srt xs) ∧ W.grownBy w' v.ownBlock
set_option maxRecDepth 100000 in
set_option maxHeartbeats 4000000 in
theorem sets_any (srt : List (List Int) → List (List Int)) (hsrt : SortsSets srt) (a0 : Int) (A : Option Addr) (c : Nat) (wins : List Bool) (hlen : wins.length ≤ 512) (p : Nat → Bool) (g : Nat) (ca cb : Array Value) (w : World)
  (eg : ∀ args w, (callFunc g args).run Tryz.prog w = .ok (.enter g args) w)
  (hp : ∀ W m, m < wins.length → Below w.heap.size w W → Calls Tryz.prog g (ca ++ #[.int .i64 (m : Int)] ++ cb) W fun e w' => e = .returned (.bool (p m)) ∧ Below W.heap.size W w') :
  Calls Tryz.prog 98 #[.agg #[.int .i64 a0, .slice A wins.length c], .func (.func g) ca cb] w fun e w' => ∃ v : Value, e = .returned v ∧ Kd.S (Kd.slice 3 (Kd.int .i64)) 36 w' w.heap.size (fun _ => True) v (srt (partS p wins.length)) ∧ Below w.heap.size w w' := by
 have hu68 := Tryz.underlying68
 have HP := Aside0.mk hp
 have HSR := Aside0.mk hsrt
 generalize hN : wins.length = N at *
 clear hp hN hsrt
 go_enter Tryz.func98, Tryz.ntmps98
 go_wp2
 go_loopg [5, 6, 11] N (fun gg v5 _ s11 wr => ∃ kk : Nat, kk ≤ N ∧ N - kk ≤ gg ∧ s11 = .int .i64 kk ∧ Aside0 (Below w.heap.size w wr) ∧ Aside0 (Kd.S (Kd.slice 3 (Kd.int .i64)) 36 wr w.heap.size (fun _ => True) v5 (partS p kk)))
 case atStart =>
  refine ⟨0, Nat.zero_le _, by omega, rfl, ⟨(Below.refl _ _).alloc (Nat.le_refl _) _ |>.alloc (by simp) _⟩, ⟨⟨fun _ => 0, ?_⟩⟩⟩
  exact ⟨fun _ _ => trivial, [], ⟨rfl, .inr ⟨w.heap.size + 1, 0, #[], rfl, by omega, heap2_1 _ _ _, Nat.le_refl _, by simp [maxLen], rfl, rfl⟩⟩, Reps.none _ _⟩
 case round =>
  obtain ⟨kk, hkk, hg, rfl, BW, HO⟩ := hrel
  have hpl := partS_len p kk
  by_cases hlt : kk < N
  ·have hltz : (kk : Int) < (N : Int) := by omega
   have hcall := HP.out wr kk hlt BW.out
   have HSO := Aside0.mk (fun W => setOf_any kk (by omega) W)
   cases hq : p kk with
   | false =>
    rw [hq] at hcall
    have HQ := Aside0.mk hq
    clear hq
    go_wp2_with (go_at_fn g; refine hcall.mono ?_; rintro e w' ⟨rfl, hb'⟩)
    go_roundg (N - (kk + 1))
    case measure => omega
    case rel => exact ⟨kk + 1, by omega, by omega, by go_num, ⟨Below.trans BW.out (hb'.mono BW.out.size)⟩, ⟨by rw [partS_no HQ.out]; exact Kd.S_below HO.out hb'⟩⟩
   | true =>
    rw [hq] at hcall
    have HQ := Aside0.mk hq
    clear hq
    go_wp2_with (first | (go_at_fn g; refine hcall.mono ?_; rintro e w1 ⟨rfl, hb1⟩; have HB1 := Aside0.mk hb1; clear hb1) | (go_at_call 136; refine (HSO.out _).mono ?_; rintro e w2 ⟨v2, rfl, ho2, hb2⟩; obtain ⟨A2, c2, rfl⟩ := Kd.R_slice ho2; have HO2 := Aside0.mk ho2; have HB2 := Aside0.mk hb2; clear ho2 hb2) | ((with_reducible refine gate_builtin (b := .append) (xs := #[.tmp 17, .tmp 20]) rfl ?_); at_builtin; refine Kd.S_append (Kd.slice 3 (Kd.int .i64)) (w0 := w) w.heap.size rfl (.tmp 17) (.tmp 20) 22 36 (.slice none 0 0) 24 rfl Tryz.underlying22 infoS rfl (by decide) (by omega) u5 (partS p kk) (setI kk) [.slice A2 (setI kk).length c2] (fun _ => True) (fun k_ => some k_ = (.slice A2 (setI kk).length c2 : Value).ownBlock) rfl rfl ?aP ?aQ (fun _ _ => trivial) ?aO ?aB ?aS (by omega) ?_; (case aP => exact Kd.M_row (Kd.R_tight rfl (Kd.R_lower HO2.out (Nat.le_trans BW.out.size HB1.out.size)))); (case aQ => exact fun k hk => ⟨trivial, fun e => by have h1 := Kd.R_base HO2.out k hk.symm; have h2 := Kd.S_lt HO.out k e.symm; have h3 := HB1.out.size; omega⟩); (case aO => exact Kd.S_mono (Kd.S_old HO.out (Below.trans HB1.out (HB2.out.mono HB1.out.size))) (fun k hk => ⟨trivial, fun e => by have h1 := Kd.R_base HO2.out k e.symm; have h2 := hk.2; have h3 := HB1.out.size; omega⟩)); (case aB => exact Below.trans BW.out ((Below.trans HB1.out (HB2.out.mono HB1.out.size)).mono BW.out.size)); (case aS => exact Nat.le_trans BW.out.size (Nat.le_trans HB1.out.size HB2.out.size)); intro v3 w3 ho hb hg hat; have HO3 := Aside0.mk ho; have HB3 := Aside0.mk hb; clear ho hb hg hat))
    go_roundg (N - (kk + 1))
    case measure => omega
    case rel => exact ⟨kk + 1, by omega, by omega, by go_num, HB3, ⟨by rw [partS_yes HQ.out]; exact HO3.out⟩⟩
  ·have hltz : ¬ (kk : Int) < (N : Int) := by omega
   have : kk = N := by omega
   subst this
   have hs := HSR.out wr w.heap.size u5 (partS p kk) (by omega) HO.out
   have HS := Aside0.mk hs
   clear hs
   go_wp2_with (go_at_call 137; refine HS.out.mono ?_; rintro e w1 ⟨rfl, ho, hg⟩; have HO1 := Aside0.mk ho; have HG1 := Aside0.mk hg; clear ho hg)
   go_ret
   exact ⟨_, rfl, HO1.out, BW.out.grown HG1.out BW.out.size (Kd.S_base HO.out)⟩
end Go.Proofs.YtnncjnjfdhbddaaGreat.Z
namespace Go.Proofs.YtnncjnjfdhbddaaGreat.Z
open Go.RowKit Go.Proofs.YtnncjnjfdhbddaaGreatW.PrintWords Go.Proofs.YtnncjnjfdhbddaaGreatW.PrintLast Go.Proofs.YtnncjnjfdhbddaaGreatW.PrintMore
attribute [local go_sem] max2_int min2_int max_two min_two max_three min_three max_four min_four
set_option linter.unusedVariables false
set_option linter.unusedSimpArgs false
def cmp_isNaN_int.f (a0 : Int) : Option (Bool) := some (a0 != a0)
set_option maxHeartbeats 8000000 in
set_option maxRecDepth 100000 in
theorem cmp_isNaN_int.calls (a0 : Int) (r : Bool) (w : World) (h : cmp_isNaN_int.f a0 = some r) :
  Calls Tryz.prog 162 #[.int .i64 a0] w fun e w' => e = .returned (.bool r) ∧ Drawn0 w w' := by
 have H : (some (a0 != a0)) = some r := h
 clear h
 obtain rfl := Option.some.inj H
 go_enter Tryz.func162, Tryz.ntmps162
 go_wp2
 go_ret
 exact ⟨by first | rfl | (simp; done) | (simp [*]; done), by repeat (first | exact Drawn0.refl _ | apply Drawn0.step)⟩
end Go.Proofs.YtnncjnjfdhbddaaGreat.Z
namespace Go.Proofs.YtnncjnjfdhbddaaGreat.Z
open Go.RowKit Go.Proofs.YtnncjnjfdhbddaaGreatW.PrintWords Go.Proofs.YtnncjnjfdhbddaaGreatW.PrintLast Go.Proofs.YtnncjnjfdhbddaaGreatW.PrintMore
attribute [local go_sem] max2_int min2_int max_two min_two max_three min_three max_four min_four
set_option linter.unusedVariables false
set_option linter.unusedSimpArgs false
def cmp_Compare_int.f (a0 : Int) (a1 : Int) : Option (Int) := (cmp_isNaN_int.f a0).bind fun t572 => ((cmp_isNaN_int.f a1).bind fun t573 => (if t572 = true then (if t573 = true then (some 0) else (some (-1))) else (if t573 = true then (some 1) else (if a0 < a1 then (some (-1)) else (if a0 > a1 then (some 1) else (some 0))))))
set_option maxHeartbeats 8000000 in
set_option maxRecDepth 100000 in
theorem cmp_Compare_int.calls (a0 : Int) (a1 : Int) (r : Int) (w : World) (h : cmp_Compare_int.f a0 a1 = some r) :
  Calls Tryz.prog 144 #[.int .i64 a0, .int .i64 a1] w fun e w' => e = .returned (.int .i64 r) ∧ Drawn0 w w' := by
 have H : ((cmp_isNaN_int.f a0).bind fun t572 => ((cmp_isNaN_int.f a1).bind fun t573 => (if t572 = true then (if t573 = true then (some 0) else (some (-1))) else (if t573 = true then (some 1) else (if a0 < a1 then (some (-1)) else (if a0 > a1 then (some 1) else (some 0))))))) = some r := h
 clear h
 replace H := Option.bind_eq_some_iff.mp H
 obtain ⟨t572, A30, H⟩ := H
 replace H : ((cmp_isNaN_int.f a1).bind fun t573 => (if t572 = true then (if t573 = true then (some 0) else (some (-1))) else (if t573 = true then (some 1) else (if a0 < a1 then (some (-1)) else (if a0 > a1 then (some 1) else (some 0)))))) = some r := H
 have A3 := Aside0.mk A30
 clear A30
 replace H := Option.bind_eq_some_iff.mp H
 obtain ⟨t573, A40, H⟩ := H
 replace H : (if t572 = true then (if t573 = true then (some 0) else (some (-1))) else (if t573 = true then (some 1) else (if a0 < a1 then (some (-1)) else (if a0 > a1 then (some 1) else (some 0))))) = some r := H
 have A4 := Aside0.mk A40
 clear A40
 by_cases c5 : t572 = true
 ·subst c5
  have H1 : (if t573 = true then (some 0) else (some (-1))) = some r := by rw [if_pos rfl] at H; exact H
  clear H
  have H := H1
  clear H1
  by_cases c6 : t573 = true
  ·subst c6
   have H1 : (some 0) = some r := by rw [if_pos rfl] at H; exact H
   clear H
   have H := H1
   clear H1
   obtain rfl := Option.some.inj H
   go_enter Tryz.func144, Tryz.ntmps144
   go_wp2_with (first | ((with_reducible refine gate_callee (f := 162) rfl ?_); refine goesL_ (some 8) rfl rfl Tryz.func162 (by kernel_rfl) rfl #[.int .i64 a0] rfl (by (try simp only [List.map_toArray, List.map_cons, List.map_nil]); first | done | rfl | (simp only [List.length_drop, List.length_take]; rfl)) ?_; (with_reducible refine (cmp_isNaN_int.calls a0 true _ A3.out).mono ?_); rintro e w' ⟨rfl, ⟨nd, rfl⟩⟩; refine ⟨_, rfl, ?_⟩) | ((with_reducible refine gate_callee (f := 162) rfl ?_); refine goesL_ (some 10) rfl rfl Tryz.func162 (by kernel_rfl) rfl #[.int .i64 a1] rfl (by (try simp only [List.map_toArray, List.map_cons, List.map_nil]); first | done | rfl | (simp only [List.length_drop, List.length_take]; rfl)) ?_; (with_reducible refine (cmp_isNaN_int.calls a1 true _ A4.out).mono ?_); rintro e w' ⟨rfl, ⟨nd, rfl⟩⟩; refine ⟨_, rfl, ?_⟩))
   go_ret
   exact ⟨by first | rfl | (simp; done) | (simp [*]; done), by repeat (first | exact Drawn0.refl _ | apply Drawn0.step)⟩
  ·replace c6 := Bool.eq_false_iff.mpr c6
   subst c6
   have H1 : (some (-1)) = some r := by rw [if_neg (show ¬ (false = true) by decide)] at H; exact H
   clear H
   have H := H1
   clear H1
   obtain rfl := Option.some.inj H
   go_enter Tryz.func144, Tryz.ntmps144
   go_wp2_with (first | ((with_reducible refine gate_callee (f := 162) rfl ?_); refine goesL_ (some 8) rfl rfl Tryz.func162 (by kernel_rfl) rfl #[.int .i64 a0] rfl (by (try simp only [List.map_toArray, List.map_cons, List.map_nil]); first | done | rfl | (simp only [List.length_drop, List.length_take]; rfl)) ?_; (with_reducible refine (cmp_isNaN_int.calls a0 true _ A3.out).mono ?_); rintro e w' ⟨rfl, ⟨nd, rfl⟩⟩; refine ⟨_, rfl, ?_⟩) | ((with_reducible refine gate_callee (f := 162) rfl ?_); refine goesL_ (some 10) rfl rfl Tryz.func162 (by kernel_rfl) rfl #[.int .i64 a1] rfl (by (try simp only [List.map_toArray, List.map_cons, List.map_nil]); first | done | rfl | (simp only [List.length_drop, List.length_take]; rfl)) ?_; (with_reducible refine (cmp_isNaN_int.calls a1 false _ A4.out).mono ?_); rintro e w' ⟨rfl, ⟨nd, rfl⟩⟩; refine ⟨_, rfl, ?_⟩))
   go_ret
   exact ⟨by first | rfl | (simp; done) | (simp [*]; done), by repeat (first | exact Drawn0.refl _ | apply Drawn0.step)⟩
 ·replace c5 := Bool.eq_false_iff.mpr c5
  subst c5
  have H1 : (if t573 = true then (some 1) else (if a0 < a1 then (some (-1)) else (if a0 > a1 then (some 1) else (some 0)))) = some r := by rw [if_neg (show ¬ (false = true) by decide)] at H; exact H
  clear H
  have H := H1
  clear H1
  by_cases c7 : t573 = true
  ·subst c7
   have H1 : (some 1) = some r := by rw [if_pos rfl] at H; exact H
   clear H
   have H := H1
   clear H1
   obtain rfl := Option.some.inj H
   go_enter Tryz.func144, Tryz.ntmps144
   go_wp2_with (first | ((with_reducible refine gate_callee (f := 162) rfl ?_); refine goesL_ (some 8) rfl rfl Tryz.func162 (by kernel_rfl) rfl #[.int .i64 a0] rfl (by (try simp only [List.map_toArray, List.map_cons, List.map_nil]); first | done | rfl | (simp only [List.length_drop, List.length_take]; rfl)) ?_; (with_reducible refine (cmp_isNaN_int.calls a0 false _ A3.out).mono ?_); rintro e w' ⟨rfl, ⟨nd, rfl⟩⟩; refine ⟨_, rfl, ?_⟩) | ((with_reducible refine gate_callee (f := 162) rfl ?_); refine goesL_ (some 10) rfl rfl Tryz.func162 (by kernel_rfl) rfl #[.int .i64 a1] rfl (by (try simp only [List.map_toArray, List.map_cons, List.map_nil]); first | done | rfl | (simp only [List.length_drop, List.length_take]; rfl)) ?_; (with_reducible refine (cmp_isNaN_int.calls a1 true _ A4.out).mono ?_); rintro e w' ⟨rfl, ⟨nd, rfl⟩⟩; refine ⟨_, rfl, ?_⟩))
   go_ret
   exact ⟨by first | rfl | (simp; done) | (simp [*]; done), by repeat (first | exact Drawn0.refl _ | apply Drawn0.step)⟩
  ·replace c7 := Bool.eq_false_iff.mpr c7
   subst c7
   have H1 : (if a0 < a1 then (some (-1)) else (if a0 > a1 then (some 1) else (some 0))) = some r := by rw [if_neg (show ¬ (false = true) by decide)] at H; exact H
   clear H
   have H := H1
   clear H1
   by_cases c8 : a0 < a1
   ·rw [if_pos c8] at H
    have c8b0 : decide (a0 < a1) = true := decide_eq_true c8
    clear c8
    obtain rfl := Option.some.inj H
    go_enter Tryz.func144, Tryz.ntmps144
    go_wp2_with (first | ((with_reducible refine gate_callee (f := 162) rfl ?_); refine goesL_ (some 8) rfl rfl Tryz.func162 (by kernel_rfl) rfl #[.int .i64 a0] rfl (by (try simp only [List.map_toArray, List.map_cons, List.map_nil]); first | done | rfl | (simp only [List.length_drop, List.length_take]; rfl)) ?_; (with_reducible refine (cmp_isNaN_int.calls a0 false _ A3.out).mono ?_); rintro e w' ⟨rfl, ⟨nd, rfl⟩⟩; refine ⟨_, rfl, ?_⟩) | ((with_reducible refine gate_callee (f := 162) rfl ?_); refine goesL_ (some 10) rfl rfl Tryz.func162 (by kernel_rfl) rfl #[.int .i64 a1] rfl (by (try simp only [List.map_toArray, List.map_cons, List.map_nil]); first | done | rfl | (simp only [List.length_drop, List.length_take]; rfl)) ?_; (with_reducible refine (cmp_isNaN_int.calls a1 false _ A4.out).mono ?_); rintro e w' ⟨rfl, ⟨nd, rfl⟩⟩; refine ⟨_, rfl, ?_⟩))
    go_ret
    exact ⟨by first | rfl | (simp; done) | (simp [*]; done), by repeat (first | exact Drawn0.refl _ | apply Drawn0.step)⟩
   ·rw [if_neg c8] at H
    have c8b0 : decide (a0 < a1) = false := decide_eq_false c8
    clear c8
    by_cases c9 : a0 > a1
    ·rw [if_pos c9] at H
     have c9b0 : decide (a1 < a0) = true := decide_eq_true c9
     clear c9
     obtain rfl := Option.some.inj H
     go_enter Tryz.func144, Tryz.ntmps144
     go_wp2_with (first | ((with_reducible refine gate_callee (f := 162) rfl ?_); refine goesL_ (some 8) rfl rfl Tryz.func162 (by kernel_rfl) rfl #[.int .i64 a0] rfl (by (try simp only [List.map_toArray, List.map_cons, List.map_nil]); first | done | rfl | (simp only [List.length_drop, List.length_take]; rfl)) ?_; (with_reducible refine (cmp_isNaN_int.calls a0 false _ A3.out).mono ?_); rintro e w' ⟨rfl, ⟨nd, rfl⟩⟩; refine ⟨_, rfl, ?_⟩) | ((with_reducible refine gate_callee (f := 162) rfl ?_); refine goesL_ (some 10) rfl rfl Tryz.func162 (by kernel_rfl) rfl #[.int .i64 a1] rfl (by (try simp only [List.map_toArray, List.map_cons, List.map_nil]); first | done | rfl | (simp only [List.length_drop, List.length_take]; rfl)) ?_; (with_reducible refine (cmp_isNaN_int.calls a1 false _ A4.out).mono ?_); rintro e w' ⟨rfl, ⟨nd, rfl⟩⟩; refine ⟨_, rfl, ?_⟩))
     go_ret
     exact ⟨by first | rfl | (simp; done) | (simp [*]; done), by repeat (first | exact Drawn0.refl _ | apply Drawn0.step)⟩
    ·rw [if_neg c9] at H
     have c9b0 : decide (a1 < a0) = false := decide_eq_false c9
     clear c9
     obtain rfl := Option.some.inj H
     go_enter Tryz.func144, Tryz.ntmps144
     go_wp2_with (first | ((with_reducible refine gate_callee (f := 162) rfl ?_); refine goesL_ (some 8) rfl rfl Tryz.func162 (by kernel_rfl) rfl #[.int .i64 a0] rfl (by (try simp only [List.map_toArray, List.map_cons, List.map_nil]); first | done | rfl | (simp only [List.length_drop, List.length_take]; rfl)) ?_; (with_reducible refine (cmp_isNaN_int.calls a0 false _ A3.out).mono ?_); rintro e w' ⟨rfl, ⟨nd, rfl⟩⟩; refine ⟨_, rfl, ?_⟩) | ((with_reducible refine gate_callee (f := 162) rfl ?_); refine goesL_ (some 10) rfl rfl Tryz.func162 (by kernel_rfl) rfl #[.int .i64 a1] rfl (by (try simp only [List.map_toArray, List.map_cons, List.map_nil]); first | done | rfl | (simp only [List.length_drop, List.length_take]; rfl)) ?_; (with_reducible refine (cmp_isNaN_int.calls a1 false _ A4.out).mono ?_); rintro e w' ⟨rfl, ⟨nd, rfl⟩⟩; refine ⟨_, rfl, ?_⟩))
     go_ret
     exact ⟨by first | rfl | (simp; done) | (simp [*]; done), by repeat (first | exact Drawn0.refl _ | apply Drawn0.step)⟩
end Go.Proofs.YtnncjnjfdhbddaaGreat.Z
namespace Go.Proofs.YtnncjnjfdhbddaaGreat.Z
open Go.RowKit Go.Proofs.YtnncjnjfdhbddaaGreatW.PrintWords Go.Proofs.YtnncjnjfdhbddaaGreatW.PrintLast Go.Proofs.YtnncjnjfdhbddaaGreatW.PrintMore
attribute [local go_sem] max2_int min2_int max_two min_two max_three min_three max_four min_four
set_option linter.unusedVariables false
set_option linter.unusedSimpArgs false
def slices_Compare_int_int.l0 : Nat → List Int → List Int → List Int → Int → Int → Option (Int)
 | 0, _, _, _, _, _ => none
 | k + 1, x0, x1, x9, x10, x11 => if x11 < x10 then (if 0 ≤ x11 then (if x11 < (x9.length : Int) then (if x11 ≥ (x1.length : Int) then (some 1) else (if x11 < (x1.length : Int) then ((cmp_Compare_int.f (rd x9 x11) (rd x1 x11)).bind fun t576 => (if t576 = 0 then (slices_Compare_int_int.l0 k x0 x1 x9 x10 (wrap64 (x11 + 1))) else (some t576))) else (none))) else (none)) else (none)) else (if (x0.length : Int) < (x1.length : Int) then (some (-1)) else (some 0))
def slices_Compare_int_int.f (k : Nat) (l0 : List Int) (l1 : List Int) : Option (Int) := slices_Compare_int_int.l0 k l0 l1 l0 (l0.length : Int) 0
set_option maxHeartbeats 8000000 in
set_option maxRecDepth 100000 in
theorem slices_Compare_int_int.calls (k : Nat) (A0 : Option Addr) (c0 : Nat) (l0 : List Int) (A1 : Option Addr) (c1 : Nat) (l1 : List Int) (r : Int) (w : World) (hr0 : Kd.C (Kd.int .i64) w A0 l0.length l0) (hc0 : l0.length ≤ c0) (hr1 : Kd.C (Kd.int .i64) w A1 l1.length l1) (hc1 : l1.length ≤ c1) (h : slices_Compare_int_int.f k l0 l1 = some r) :
  Calls Tryz.prog 110 #[.slice A0 l0.length c0, .slice A1 l1.length c1] w fun e w' => e = .returned (.int .i64 r) ∧ Drawn0 w w' := by
 have HR0 := Aside0.mk hr0
 have HC0 := Aside0.mk hc0
 clear hr0 hc0
 have HR1 := Aside0.mk hr1
 have HC1 := Aside0.mk hc1
 clear hr1 hc1
 have H : (slices_Compare_int_int.l0 k l0 l1 l0 (l0.length : Int) 0) = some r := h
 clear h
 have H' := Aside0.mk H
 clear H
 go_enter Tryz.func110, Tryz.ntmps110
 go_wp2
 go_loopg [11] k (fun kq v11 w' => ∃ (x11_1 : Int), v11 = .int .i64 x11_1 ∧ Aside0 (slices_Compare_int_int.l0 kq l0 l1 l0 (l0.length : Int) x11_1 = some r) ∧ Aside0 (kq ≤ k) ∧ Drawn0 w w')
 case atStart => exact ⟨(0), (by first | rfl | (simp; done) | (simp [*]; done)), H', ⟨Nat.le_refl _⟩, by repeat (first | exact Drawn0.refl _ | apply Drawn0.step)⟩
 case round =>
  clear H'
  try clear c1
  try clear p2
  obtain ⟨x11_1, rfl, HA, HK1, ⟨m1, rfl⟩⟩ := hrel
  cases gk with
  | zero => exact absurd HA.out (by simp [slices_Compare_int_int.l0])
  | succ k1 =>
   have H := HA.out
   clear HA
   simp only [slices_Compare_int_int.l0] at H
   by_cases c3 : x11_1 < (l0.length : Int)
   ·rw [if_pos c3] at H
    have c3b0 : decide (x11_1 < (l0.length : Int)) = true := decide_eq_true c3
    clear c3
    by_cases c4 : 0 ≤ x11_1
    ·rw [if_pos c4] at H
     have c4b0 : decide (0 ≤ x11_1) = true := decide_eq_true c4
     clear c4
     by_cases c5 : x11_1 < (l0.length : Int)
     ·rw [if_pos c5] at H
      have c5b0 : decide (x11_1 < (l0.length : Int)) = true := decide_eq_true c5
      clear c5
      by_cases c6 : x11_1 ≥ (l1.length : Int)
      ·rw [if_pos c6] at H
       have c6b0 : decide ((l1.length : Int) ≤ x11_1) = true := decide_eq_true c6
       clear c6
       obtain rfl := Option.some.inj H
       have p574 : 0 ≤ (x11_1 : Int) := of_decide_eq_true (by first | (with_reducible assumption) | assumption)
       have q574 : x11_1 < (l0.length : Int) := of_decide_eq_true (by first | (with_reducible assumption) | assumption)
       obtain ⟨ad574, e574, hx574_0⟩ := Kd.at_int HR0.out x11_1 p574 q574
       cases e574
       replace p574 := eq_true p574
       replace q574 := eq_true q574
       go_wp2
       go_ret
       exact ⟨by first | rfl | (simp; done) | (simp [*]; done), by repeat (first | exact Drawn0.refl _ | apply Drawn0.step)⟩
      ·rw [if_neg c6] at H
       have c6b0 : decide ((l1.length : Int) ≤ x11_1) = false := decide_eq_false c6
       clear c6
       by_cases c7 : x11_1 < (l1.length : Int)
       ·rw [if_pos c7] at H
        have c7b0 : decide (x11_1 < (l1.length : Int)) = true := decide_eq_true c7
        clear c7
        replace H := Option.bind_eq_some_iff.mp H
        obtain ⟨t576, A80, H⟩ := H
        replace H : (if t576 = 0 then (slices_Compare_int_int.l0 k1 l0 l1 l0 (l0.length : Int) (wrap64 (x11_1 + 1))) else (some t576)) = some r := H
        have A8 := Aside0.mk A80
        clear A80
        by_cases c9 : t576 = 0
        ·rw [if_pos c9] at H
         have c9b0 : (t576 == 0) = true := beq_iff_eq.mpr c9
         have c9b1 : (t576 != 0) = false := bne_eq_false_iff_eq.mpr c9
         clear c9
         have H' := Aside0.mk H
         clear H
         have p574 : 0 ≤ (x11_1 : Int) := of_decide_eq_true (by first | (with_reducible assumption) | assumption)
         have q574 : x11_1 < (l0.length : Int) := of_decide_eq_true (by first | (with_reducible assumption) | assumption)
         obtain ⟨ad574, e574, hx574_0⟩ := Kd.at_int HR0.out x11_1 p574 q574
         cases e574
         replace p574 := eq_true p574
         replace q574 := eq_true q574
         have p575 : 0 ≤ (x11_1 : Int) := of_decide_eq_true (by first | (with_reducible assumption) | assumption)
         have q575 : x11_1 < (l1.length : Int) := of_decide_eq_true (by first | (with_reducible assumption) | assumption)
         obtain ⟨ad575, e575, hx575_0⟩ := Kd.at_int HR1.out x11_1 p575 q575
         cases e575
         replace p575 := eq_true p575
         replace q575 := eq_true q575
         go_wp2_with (first | ((with_reducible refine gate_callee (f := 144) rfl ?_); refine goesL_ (some 26) rfl rfl Tryz.func144 (by kernel_rfl) rfl #[.int .i64 (rd l0 x11_1), .int .i64 (rd l1 x11_1)] rfl (by (try simp only [List.map_toArray, List.map_cons, List.map_nil]); first | done | rfl | (simp only [List.length_drop, List.length_take]; rfl)) ?_; (with_reducible refine (cmp_Compare_int.calls (rd l0 x11_1) (rd l1 x11_1) t576 _ A8.out).mono ?_); rintro e w' ⟨rfl, ⟨nd, rfl⟩⟩; refine ⟨_, rfl, ?_⟩))
         go_roundg k1
         case measure => have := HK1.out; omega
         case rel => exact ⟨(wrap64 (x11_1 + 1)), (by first | rfl | (simp; done) | (simp [*]; done)), H', ⟨by have := HK1.out; omega⟩, by repeat (first | exact Drawn0.refl _ | apply Drawn0.step)⟩
        ·rw [if_neg c9] at H
         have c9b0 : (t576 == 0) = false := beq_eq_false_iff_ne.mpr c9
         have c9b1 : (t576 != 0) = true := bne_iff_ne.mpr c9
         obtain rfl := Option.some.inj H
         have p574 : 0 ≤ (x11_1 : Int) := of_decide_eq_true (by first | (with_reducible assumption) | assumption)
         have q574 : x11_1 < (l0.length : Int) := of_decide_eq_true (by first | (with_reducible assumption) | assumption)
         obtain ⟨ad574, e574, hx574_0⟩ := Kd.at_int HR0.out x11_1 p574 q574
         cases e574
         replace p574 := eq_true p574
         replace q574 := eq_true q574
         have p575 : 0 ≤ (x11_1 : Int) := of_decide_eq_true (by first | (with_reducible assumption) | assumption)
         have q575 : x11_1 < (l1.length : Int) := of_decide_eq_true (by first | (with_reducible assumption) | assumption)
         obtain ⟨ad575, e575, hx575_0⟩ := Kd.at_int HR1.out x11_1 p575 q575
         cases e575
         replace p575 := eq_true p575
         replace q575 := eq_true q575
         go_wp2_with (first | ((with_reducible refine gate_callee (f := 144) rfl ?_); refine goesL_ (some 26) rfl rfl Tryz.func144 (by kernel_rfl) rfl #[.int .i64 (rd l0 x11_1), .int .i64 (rd l1 x11_1)] rfl (by (try simp only [List.map_toArray, List.map_cons, List.map_nil]); first | done | rfl | (simp only [List.length_drop, List.length_take]; rfl)) ?_; (with_reducible refine (cmp_Compare_int.calls (rd l0 x11_1) (rd l1 x11_1) t576 _ A8.out).mono ?_); rintro e w' ⟨rfl, ⟨nd, rfl⟩⟩; refine ⟨_, rfl, ?_⟩))
         go_ret
         exact ⟨by first | rfl | (simp; done) | (simp [*]; done), by repeat (first | exact Drawn0.refl _ | apply Drawn0.step)⟩
       ·rw [if_neg c7] at H
        exact absurd H (by simp)
     ·rw [if_neg c5] at H
      exact absurd H (by simp)
    ·rw [if_neg c4] at H
     exact absurd H (by simp)
   ·rw [if_neg c3] at H
    have c3b0 : decide (x11_1 < (l0.length : Int)) = false := decide_eq_false c3
    clear c3
    by_cases c10 : (l0.length : Int) < (l1.length : Int)
    ·rw [if_pos c10] at H
     have c10b0 : decide ((l0.length : Int) < (l1.length : Int)) = true := decide_eq_true c10
     have c10b1 : decide (l0.length < l1.length) = true := decide_eq_true (Int.ofNat_lt.mp c10)
     clear c10
     obtain rfl := Option.some.inj H
     go_wp2
     go_ret
     exact ⟨by first | rfl | (simp; done) | (simp [*]; done), by repeat (first | exact Drawn0.refl _ | apply Drawn0.step)⟩
    ·rw [if_neg c10] at H
     have c10b0 : decide ((l0.length : Int) < (l1.length : Int)) = false := decide_eq_false c10
     have c10b1 : decide (l0.length < l1.length) = false := decide_eq_false (fun h => c10 (Int.ofNat_lt.mpr h))
     clear c10
     obtain rfl := Option.some.inj H
     go_wp2
     go_ret
     exact ⟨by first | rfl | (simp; done) | (simp [*]; done), by repeat (first | exact Drawn0.refl _ | apply Drawn0.step)⟩
end Go.Proofs.YtnncjnjfdhbddaaGreat.Z
namespace Go.Proofs.YtnncjnjfdhbddaaGreat.Z
open Go.RowKit Go.Proofs.YtnncjnjfdhbddaaGreatW.PrintWords Go.Proofs.YtnncjnjfdhbddaaGreatW.PrintLast Go.Proofs.YtnncjnjfdhbddaaGreatW.PrintMore
attribute [local go_sem] max2_int min2_int max_two min_two max_three min_three max_four min_four
set_option linter.unusedVariables false
set_option linter.unusedSimpArgs false
open Go.Sort (grow alloc_eq_grow grow_grow)
theorem cmpCompare_eq (a b : Int) : cmp_Compare_int.f a b = some (cmpI a b) := by
 unfold cmp_Compare_int.f cmp_isNaN_int.f cmpI
 simp
 by_cases h1 : a < b
 ·simp [h1]
 ·by_cases h2 : b < a
  ·simp [h1, h2]
  ·simp [h1, h2]
theorem compare_l0 (x y : List Int) (hx : x.length ≤ 9223372036854775807) : ∀ (d k i : Nat), x.length - i = d → i ≤ x.length → d < k → (i ≤ y.length) →
  slices_Compare_int_int.l0 k x y x (x.length : Int) (i : Int) = some (lexC cmpI (x.drop i) (y.drop i)) := by
 intro d
 induction d with
 | zero =>
  intro k i hd hi hk hy
  obtain ⟨k, rfl⟩ : ∃ m, k = m + 1 := ⟨k - 1, by omega⟩
  simp only [slices_Compare_int_int.l0]
  rw [if_neg (by omega), lexC_end _ _ _ _ (by omega)]
  by_cases h : i < y.length
  ·rw [if_pos (by omega), if_pos h]
  ·rw [if_neg (by omega), if_neg h]
 | succ d ih =>
  intro k i hd hi hk hy
  obtain ⟨k, rfl⟩ : ∃ m, k = m + 1 := ⟨k - 1, by omega⟩
  have hlt : i < x.length := by omega
  simp only [slices_Compare_int_int.l0]
  rw [if_pos (by omega), if_pos (by omega), if_pos (by omega)]
  by_cases h : i < y.length
  ·rw [if_neg (by omega), if_pos (by omega), cmpCompare_eq]
   simp only [Option.bind_some]
   rw [lexC_drop cmpI 0 x y i hlt h]
   have e1 : rd x (i : Int) = x.getD i 0 := by simp [rd]
   have e2 : rd y (i : Int) = y.getD i 0 := by simp [rd]
   rw [e1, e2]
   by_cases h0 : cmpI (x.getD i 0) (y.getD i 0) = 0
   ·rw [if_pos h0, if_pos h0]
    have := ih k (i + 1) (by omega) (by omega) (by omega) (by omega)
    rw [show wrap64 ((i : Int) + 1) = ((i + 1 : Nat) : Int) by unfold wrap64; omega]
    exact this
   ·rw [if_neg h0, if_neg h0]
  ·rw [if_pos (by omega), lexC_long _ _ _ _ hlt (by omega)]
theorem compare_f (x y : List Int) (hx : x.length ≤ 9223372036854775807) : slices_Compare_int_int.f (x.length + 1) x y = some (cmpL x y) := compare_l0 x y hx x.length (x.length + 1) 0 (by omega) (by omega) (by omega) (by omega)
theorem compare_any (W : World) (x y : List Int) (A0 B0 : Option Addr) (c0 d0 : Nat) (h1 : x.length ≤ c0) (h2 : Kd.C (Kd.int .i64) W A0 x.length x) (h3 : y.length ≤ d0) (h4 : Kd.C (Kd.int .i64) W B0 y.length y) :
  Calls Tryz.prog 110 #[.slice A0 x.length c0, .slice B0 y.length d0] W fun e w' => e = .returned (.int .i64 (cmpL x y)) ∧ Drawn0 W w' :=
 slices_Compare_int_int.calls _ A0 c0 x B0 d0 y _ W h2 h1 h4 h3 (compare_f x y h2.2.1)
set_option maxHeartbeats 1000000 in
theorem compareGames_any (n1 n2 : Int) (A1 : Option Addr) (c1 : Nat) (l1 : List (List Int)) (A2 : Option Addr) (c2 : Nat) (l2 : List (List Int)) (w : World)
  (hr1 : Kd.C (Kd.slice 3 (Kd.int .i64)) w A1 l1.length l1) (hr2 : Kd.C (Kd.slice 3 (Kd.int .i64)) w A2 l2.length l2) :
  Calls Tryz.prog 122 #[.agg #[.int .i64 n1, .slice A1 l1.length c1], .agg #[.int .i64 n2, .slice A2 l2.length c2]] w fun e w' => e = .returned (.int .i64 (cmpLL l1 l2)) ∧ ∃ n os, w' = grow (w.drewN n) os := by
 have hu28 := Tryz.underlying28
 have eg : ∀ args w, (callFunc 110 args).run Tryz.prog w = .ok (.enter 110 args) w := enters_of Tryz.func110 (by kernel_rfl) rfl
 have hC := fun W (hb : Below w.heap.size w W) => compareFunc_any cmpL 110 A1 c1 l1 A2 c2 l2 W eg (Kd.C_below hr1 hb) (Kd.C_below hr2 hb) compare_any
 change ∀ W (hb : Below w.heap.size w W), Calls Tryz.prog 149 _ W fun e w' => e = .returned (.int .i64 (cmpLL l1 l2)) ∧ Drawn0 W w' at hC
 generalize cmpLL l1 l2 = q at hC
 have HC := Aside0.mk hC
 clear hC hr1 hr2 eg
 go_enter Tryz.func122, Tryz.ntmps122
 go_wp2_with (go_at_call 149; refine (HC.out _ ((Below.refl _ _).alloc (Nat.le_refl _) _ |>.alloc (by simp) _)).mono ?_; rintro e w' ⟨rfl, ⟨nd, rfl⟩⟩)
 go_ret
 refine ⟨rfl, nd, #[Obj.cells #[.int .i64 n1, .slice A1 l1.length c1] 28, Obj.cells #[.int .i64 n2, .slice A2 l2.length c2] 28], ?_⟩
 rw [alloc_eq_grow, alloc_eq_grow, grow_grow]
 rfl
end Go.Proofs.YtnncjnjfdhbddaaGreat.Z
namespace Go.Proofs
open Go.Shelf
def Tryz.sortS_ren : Go.Shelf.Ren := ⟨fun | 6 => 137 | 15 => 148 | 14 => 156 | 28 => 172 | 29 => 173 | 20 => 178 | 21 => 179 | 22 => 180 | 23 => 181 | 24 => 182 | 25 => 183 | 26 => 184 | 27 => 185 | 46 => 193 | 47 => 189 | 48 => 190 | 49 => 194 | 50 => 195 | 57 => 197 | n => n, fun | 22 => 22 | 24 => 36 | 25 => 121 | 3 => 3 | 39 => 147 | 0 => 0 | 53 => 167 | 55 => 169 | 4 => 4 | 46 => 161 | 45 => 160 | 50 => 26 | 5 => 5 | 9 => 9 | 66 => 176 | 70 => 180 | 76 => 184 | 77 => 185 | n => n, fun | n => n⟩
theorem Tryz.sortS : Go.Proofs.SlLaysF.n6 Tryz.prog Tryz.sortS_ren := {
 mixed := by kernel_rfl
 f6 := ⟨Tryz.f137.name, by decide, Tryz.func137.trans (congrArg some (by kernel_rfl))⟩
 f14 := ⟨Tryz.f156.name, by decide, Tryz.func156.trans (congrArg some (by kernel_rfl))⟩
 f15 := Tryz.func148.trans (congrArg some (by kernel_rfl))
 f20 := ⟨Tryz.f178.name, by decide, Tryz.func178.trans (congrArg some (by kernel_rfl))⟩
 f21 := ⟨Tryz.f179.name, by decide, Tryz.func179.trans (congrArg some (by kernel_rfl))⟩
 f22 := ⟨Tryz.f180.name, by decide, Tryz.func180.trans (congrArg some (by kernel_rfl))⟩
 f23 := ⟨Tryz.f181.name, by decide, Tryz.func181.trans (congrArg some (by kernel_rfl))⟩
 f24 := ⟨Tryz.f182.name, by decide, Tryz.func182.trans (congrArg some (by kernel_rfl))⟩
 f25 := ⟨Tryz.f183.name, by decide, Tryz.func183.trans (congrArg some (by kernel_rfl))⟩
 f26 := ⟨Tryz.f184.name, by decide, Tryz.func184.trans (congrArg some (by kernel_rfl))⟩
 f27 := ⟨Tryz.f185.name, by decide, Tryz.func185.trans (congrArg some (by kernel_rfl))⟩
 f28 := Tryz.func172.trans (congrArg some (by kernel_rfl))
 f29 := Tryz.func173.trans (congrArg some (by kernel_rfl))
 f46 := ⟨Tryz.f193.name, by decide, Tryz.func193.trans (congrArg some (by kernel_rfl))⟩
 f47 := Tryz.func189.trans (congrArg some (by kernel_rfl))
 f48 := Tryz.func190.trans (congrArg some (by kernel_rfl))
 f49 := ⟨Tryz.f194.name, by decide, Tryz.func194.trans (congrArg some (by kernel_rfl))⟩
 f50 := ⟨Tryz.f195.name, by decide, Tryz.func195.trans (congrArg some (by kernel_rfl))⟩
 f57 := ⟨Tryz.f197.name, by decide, Tryz.func197.trans (congrArg some (by kernel_rfl))⟩
 t0 := Tryz.underlying0
 a0 := Tryz.isAgg0
 z0 := Tryz.sizeOf0
 v0 := Tryz.zeroValue0
 t3 := Tryz.underlying3
 a3 := Tryz.isAgg3
 z3 := Tryz.sizeOf3
 v3 := Tryz.zeroValue3
 t4 := Tryz.underlying4
 a4 := Tryz.isAgg4
 z4 := Tryz.sizeOf4
 v4 := Tryz.zeroValue4
 t5 := Tryz.underlying5
 a5 := Tryz.isAgg5
 z5 := Tryz.sizeOf5
 v5 := Tryz.zeroValue5
 t9 := Tryz.underlying9
 a9 := Tryz.isAgg9
 z9 := Tryz.sizeOf9
 v9 := Tryz.zeroValue9
 t22 := Tryz.underlying22
 a22 := Tryz.isAgg22
 z22 := Tryz.sizeOf22
 v22 := Tryz.zeroValue22
 a24 := Tryz.isAgg36
 z24 := Tryz.sizeOf36
 t25 := Tryz.underlying121
 a25 := Tryz.isAgg121
 z25 := Tryz.sizeOf121
 v25 := Tryz.zeroValue121
 t39 := Tryz.underlying147
 a39 := Tryz.isAgg147
 z39 := Tryz.sizeOf147
 v39 := Tryz.zeroValue147
 t45 := Tryz.underlying160
 a45 := Tryz.isAgg160
 z45 := Tryz.sizeOf160
 v45 := Tryz.zeroValue160
 t46 := Tryz.underlying161
 a46 := Tryz.isAgg161
 z46 := Tryz.sizeOf161
 v46 := Tryz.zeroValue161
 t50 := Tryz.underlying26
 a50 := Tryz.isAgg26
 z50 := Tryz.sizeOf26
 v50 := Tryz.zeroValue26
 t53 := Tryz.underlying167
 a53 := Tryz.isAgg167
 z53 := Tryz.sizeOf167
 v53 := Tryz.zeroValue167
 t55 := Tryz.underlying169
 a55 := Tryz.isAgg169
 z55 := Tryz.sizeOf169
 v55 := Tryz.zeroValue169
 t66 := Tryz.underlying176
 a66 := Tryz.isAgg176
 z66 := Tryz.sizeOf176
 v66 := Tryz.zeroValue176
 t70 := Tryz.underlying180
 a70 := Tryz.isAgg180
 z70 := Tryz.sizeOf180
 v70 := Tryz.zeroValue180
 t76 := Tryz.underlying184
 a76 := Tryz.isAgg184
 z76 := Tryz.sizeOf184
 v76 := Tryz.zeroValue184
 t77 := Tryz.underlying185
 a77 := Tryz.isAgg185
 z77 := Tryz.sizeOf185
 v77 := Tryz.zeroValue185 }
def Tryz.sortG_ren : Go.Shelf.Ren := ⟨fun | 6 => 121 | 15 => 148 | 14 => 147 | 28 => 172 | 29 => 173 | 20 => 164 | 21 => 165 | 22 => 166 | 23 => 167 | 24 => 168 | 25 => 169 | 26 => 170 | 27 => 171 | 46 => 188 | 47 => 189 | 48 => 190 | 49 => 191 | 50 => 192 | 57 => 196 | n => n, fun | 22 => 53 | 24 => 28 | 25 => 127 | 3 => 3 | 39 => 147 | 0 => 0 | 53 => 167 | 55 => 169 | 4 => 4 | 46 => 161 | 45 => 160 | 50 => 26 | 5 => 5 | 9 => 9 | 66 => 176 | 70 => 180 | 76 => 184 | 77 => 185 | n => n, fun | n => n⟩
theorem Tryz.sortG : Go.Proofs.SlLaysF0.n6 Tryz.prog Tryz.sortG_ren := {
 mixed := by kernel_rfl
 f6 := ⟨Tryz.f121.name, by decide, Tryz.func121.trans (congrArg some (by kernel_rfl))⟩
 f14 := ⟨Tryz.f147.name, by decide, Tryz.func147.trans (congrArg some (by kernel_rfl))⟩
 f15 := Tryz.func148.trans (congrArg some (by kernel_rfl))
 f20 := ⟨Tryz.f164.name, by decide, Tryz.func164.trans (congrArg some (by kernel_rfl))⟩
 f21 := ⟨Tryz.f165.name, by decide, Tryz.func165.trans (congrArg some (by kernel_rfl))⟩
 f22 := ⟨Tryz.f166.name, by decide, Tryz.func166.trans (congrArg some (by kernel_rfl))⟩
 f23 := ⟨Tryz.f167.name, by decide, Tryz.func167.trans (congrArg some (by kernel_rfl))⟩
 f24 := ⟨Tryz.f168.name, by decide, Tryz.func168.trans (congrArg some (by kernel_rfl))⟩
 f25 := ⟨Tryz.f169.name, by decide, Tryz.func169.trans (congrArg some (by kernel_rfl))⟩
 f26 := ⟨Tryz.f170.name, by decide, Tryz.func170.trans (congrArg some (by kernel_rfl))⟩
 f27 := ⟨Tryz.f171.name, by decide, Tryz.func171.trans (congrArg some (by kernel_rfl))⟩
 f28 := Tryz.func172.trans (congrArg some (by kernel_rfl))
 f29 := Tryz.func173.trans (congrArg some (by kernel_rfl))
 f46 := ⟨Tryz.f188.name, by decide, Tryz.func188.trans (congrArg some (by kernel_rfl))⟩
 f47 := Tryz.func189.trans (congrArg some (by kernel_rfl))
 f48 := Tryz.func190.trans (congrArg some (by kernel_rfl))
 f49 := ⟨Tryz.f191.name, by decide, Tryz.func191.trans (congrArg some (by kernel_rfl))⟩
 f50 := ⟨Tryz.f192.name, by decide, Tryz.func192.trans (congrArg some (by kernel_rfl))⟩
 f57 := ⟨Tryz.f196.name, by decide, Tryz.func196.trans (congrArg some (by kernel_rfl))⟩
 t0 := Tryz.underlying0
 a0 := Tryz.isAgg0
 z0 := Tryz.sizeOf0
 v0 := Tryz.zeroValue0
 t3 := Tryz.underlying3
 a3 := Tryz.isAgg3
 z3 := Tryz.sizeOf3
 v3 := Tryz.zeroValue3
 t4 := Tryz.underlying4
 a4 := Tryz.isAgg4
 z4 := Tryz.sizeOf4
 v4 := Tryz.zeroValue4
 t5 := Tryz.underlying5
 a5 := Tryz.isAgg5
 z5 := Tryz.sizeOf5
 v5 := Tryz.zeroValue5
 t9 := Tryz.underlying9
 a9 := Tryz.isAgg9
 z9 := Tryz.sizeOf9
 v9 := Tryz.zeroValue9
 t22 := Tryz.underlying53
 a22 := Tryz.isAgg53
 z22 := Tryz.sizeOf53
 v22 := Tryz.zeroValue53
 t25 := Tryz.underlying127
 a25 := Tryz.isAgg127
 z25 := Tryz.sizeOf127
 v25 := Tryz.zeroValue127
 t39 := Tryz.underlying147
 a39 := Tryz.isAgg147
 z39 := Tryz.sizeOf147
 v39 := Tryz.zeroValue147
 t45 := Tryz.underlying160
 a45 := Tryz.isAgg160
 z45 := Tryz.sizeOf160
 v45 := Tryz.zeroValue160
 t46 := Tryz.underlying161
 a46 := Tryz.isAgg161
 z46 := Tryz.sizeOf161
 v46 := Tryz.zeroValue161
 t50 := Tryz.underlying26
 a50 := Tryz.isAgg26
 z50 := Tryz.sizeOf26
 v50 := Tryz.zeroValue26
 t53 := Tryz.underlying167
 a53 := Tryz.isAgg167
 z53 := Tryz.sizeOf167
 v53 := Tryz.zeroValue167
 t55 := Tryz.underlying169
 a55 := Tryz.isAgg169
 z55 := Tryz.sizeOf169
 v55 := Tryz.zeroValue169
 t66 := Tryz.underlying176
 a66 := Tryz.isAgg176
 z66 := Tryz.sizeOf176
 v66 := Tryz.zeroValue176
 t70 := Tryz.underlying180
 a70 := Tryz.isAgg180
 z70 := Tryz.sizeOf180
 v70 := Tryz.zeroValue180
 t76 := Tryz.underlying184
 a76 := Tryz.isAgg184
 z76 := Tryz.sizeOf184
 v76 := Tryz.zeroValue184
 t77 := Tryz.underlying185
 a77 := Tryz.isAgg185
 z77 := Tryz.sizeOf185
 v77 := Tryz.zeroValue185 }
end Go.Proofs
namespace Go.Proofs.YtnncjnjfdhbddaaGreat.Z
open Go.RowKit Go.Proofs.YtnncjnjfdhbddaaGreatW.PrintWords Go.Proofs.YtnncjnjfdhbddaaGreatW.PrintLast Go.Proofs.YtnncjnjfdhbddaaGreatW.PrintMore
attribute [local go_sem] max2_int min2_int max_two min_two max_three min_three max_four min_four
set_option linter.unusedVariables false
set_option linter.unusedSimpArgs false
section
open Go.Sort (grow putRow putCells mapBlock onCells ahead Holds PermIn SortedIn SWO)
variable {α : Type} [Inhabited α]
theorem sw_size (enc : α → Value) (W : World) (g m : Nat) (d : Array α) (os : Array Obj) : W.heap.size ≤ (sortWorld enc W g 0 m d os).heap.size := by
 simp [sortWorld, grow, putRow, mapBlock, ahead]
theorem sw_at (enc : α → Value) (W : World) (g m : Nat) (d : Array α) (os : Array Obj) {cur : Array Value} {e : TypeId} {fr : Nat × Nat} (h : W.heap[g]? = some (.cells cur e fr)) :
  (sortWorld enc W g 0 m d os).heap[g]? = some (.cells (putCells enc 0 d cur) e fr) := by
 have hl : g < W.heap.size := (Array.getElem?_eq_some_iff.1 h).1
 simp only [sortWorld, grow, putRow, mapBlock, ahead]
 rw [Array.getElem?_append_left (by simpa using hl), Array.getElem?_modify, if_pos rfl]
 show Option.map _ W.heap[g]? = _
 rw [h]
 rfl
theorem sw_far (enc : α → Value) (W : World) (g m : Nat) (d : Array α) (os : Array Obj) (k : Nat) (hk : k < W.heap.size) (hne : k ≠ g) : (sortWorld enc W g 0 m d os).heap[k]? = W.heap[k]? := by
 simp only [sortWorld, grow, putRow, mapBlock, ahead]
 rw [Array.getElem?_append_left (by simpa using hk), Array.getElem?_modify, if_neg (fun e => hne e.symm)]
 rfl
theorem sw_grown (enc : α → Value) (W : World) (g m : Nat) (d : Array α) (os : Array Obj) : W.grownBy (sortWorld enc W g 0 m d os) (some g) :=
 ⟨rfl, rfl, rfl, sw_size enc W g m d os, fun i hi hne => sw_far enc W g m d os i hi (fun e => hne (by rw [e]))⟩
theorem putCells_take (enc : α → Value) (d : Array α) (cur : Array Value) (h : d.size ≤ cur.size) : (putCells enc 0 d cur).toList.take d.size = d.toList.map enc := by
 apply List.ext_getElem
 ·simp [putCells, h]
 ·intro i h1 h2
  have hi : i < d.size := by simpa using h2
  simp [putCells, hi]
theorem putCells_size (enc : α → Value) (d : Array α) (cur : Array Value) : (putCells enc 0 d cur).size = cur.size := by simp [putCells]
end
theorem reps_one {β : Type} {R : β → List Value → Prop} {ps : List β} {inner : List Value} (hl : inner.length = ps.length) (h : ∀ (j : Nat) (p : β) (v : Value), ps[j]? = some p → inner[j]? = some v → R p [v]) : Reps R 1 ps inner := by
 refine ⟨by omega, fun j p hj => ?_⟩
 have hjl := (List.getElem?_eq_some_iff.1 hj).1
 rw [Nat.mul_one, List.drop_eq_getElem_cons (by omega)]
 exact h j p _ hj (List.getElem?_eq_getElem (by omega))
theorem reps_one_at {β : Type} {R : β → List Value → Prop} {ps : List β} {inner : List Value} (h : Reps R 1 ps inner) {j : Nat} {p : β} {v : Value} (hp : ps[j]? = some p) (hv : inner[j]? = some v) : R p [v] := by
 have := h.2 j p hp
 obtain ⟨hl, rfl⟩ := List.getElem?_eq_some_iff.1 hv
 rw [Nat.mul_one, List.drop_eq_getElem_cons hl] at this
 exact this
theorem zip_getD (xs : List (List Int)) (i : Nat) (h : i < xs.length) : xs.zipIdx[i]? = some (xs.getD i [], i) := by
 rw [List.getElem?_zipIdx, List.getElem?_eq_getElem h, List.getD_eq_getElem?_getD, List.getElem?_eq_getElem h]
 simp
section
open Go.Sort (grow putRow putCells mapBlock onCells ahead Holds PermIn SortedIn SWO)
theorem swo_of {α : Type} {c : List Int → List Int → Int} (h : Cmp c) (f : α → List Int) : SWO (ltOf fun i j => c (f i) (f j)) where
 irrefl := fun x => by
  have := (h.eq (f x) (f x)).2 rfl
  simp [ltOf, this]
 trans := fun x y z h1 h2 => by
  simp only [ltOf, decide_eq_true_eq] at *
  exact h.trans _ _ _ h1 h2
 ntrans := fun x y z h1 h2 => by
  simp only [ltOf, decide_eq_false_iff_not] at *
  have a := h.le_trans (f z) (f y) (f x) (by simp [leB]; omega) (by simp [leB]; omega)
  simp [leB] at a
  omega
set_option maxHeartbeats 1000000 in
theorem sortSets_pos (W : World) (base : Nat) (g cap : Nat) (xs : List (List Int)) (hx : xs.length ≤ 512) (hpos : 0 < xs.length)
  (hS : Kd.S (Kd.slice 3 (Kd.int .i64)) 36 W base (fun _ => True) (.slice (some ⟨g, 0, none⟩) xs.length cap) xs) :
  Calls Tryz.prog 137 #[.slice (some ⟨g, 0, none⟩) xs.length cap, .func (.func 110) #[] #[]] W fun e w' => e = .returned (.tuple #[]) ∧ Kd.S (Kd.slice 3 (Kd.int .i64)) 36 w' base (fun _ => True) (.slice (some ⟨g, 0, none⟩) xs.length cap) (sortC cmpL xs) ∧ W.grownBy w' (some g) := by
 have eg : ∀ args w, (callFunc 110 args).run Tryz.prog w = .ok (.enter 110 args) w := enters_of Tryz.func110 (by kernel_rfl) rfl
 obtain ⟨f, h0, inner, ho, hr⟩ := hS
 have hlz : xs.zipIdx.length = xs.length := by simp
 rw [hlz] at ho
 obtain ⟨hil, ho2⟩ := ho
 rcases ho2 with ⟨_, hz⟩ | ⟨g', cap', cur, he, hbg, hh, hnc, hcm, hcs, hct⟩
 ·omega
 injection he with he1 _ he2
 injection he1 with he1
 injection he1 with he1
 subst he1 he2
 have hsz1 : (Kd.tag f (Kd.slice 3 (Kd.int .i64))).sz = 1 := rfl
 rw [hsz1, Nat.mul_one] at hil
 rw [hsz1, Nat.mul_one] at hct hcs
 rw [hsz1] at hr
 generalize hn : xs.length = n at *
 haveI : Inhabited (Fin n) := ⟨⟨0, hpos⟩⟩
 have hel : ∀ (i : Nat), i < n → ∃ v, inner[i]? = some v ∧ (Kd.int .i64).R 3 W base (fun k => (True ∧ some k ≠ some g) ∧ f k = i) v (xs.getD i []) := by
  intro i hi
  have hii : i < inner.length := by omega
  have h1 := reps_one_at hr (zip_getD xs i (by omega)) (List.getElem?_eq_getElem hii)
  obtain ⟨v, hv, hR⟩ := h1
  injection hv with hv _
  exact ⟨v, by rw [List.getElem?_eq_getElem hii, hv], hR⟩
 let enc : Fin n → Value := fun i => inner.getD i.val (.bool false)
 let d : Array (Fin n) := Array.ofFn fun i => i
 have hd : d.size = n := by simp [d]
 have hdj : ∀ j (h : j < n), d[j]! = ⟨j, h⟩ := by
  intro j h
  rw [getElem!_pos d j (by omega)]
  simp [d]
 have hgl : g < W.heap.size := blk_lt hh
 have hH : Holds enc W g 0 d := by
  intro j hj
  rw [hd] at hj
  obtain ⟨v, hv, _⟩ := hel j hj
  refine ⟨?_, blk_frozen hh _⟩
  rw [Nat.zero_add, blk_cell hh j, hdj j hj]
  show cur[j]? = some (inner.getD j _)
  rw [List.getD_eq_getElem?_getD, hv, Option.getD_some, ← hv, ← hct]
  rw [List.getElem?_take, if_pos (by omega)]
  simp
 have h1c : OneCell enc := by
  intro i
  obtain ⟨v, hv, hR⟩ := hel i.val i.isLt
  show (inner.getD i.val _).oneCell' = true
  rw [List.getD_eq_getElem?_getD, hv]
  exact (Kd.R_val hR).2
 have hcmp : CmpLays1 Tryz.prog 110 #[] enc (fun i j : Fin n => cmpL (xs.getD i.val []) (xs.getD j.val [])) g 0 d.size W := by
  intro m os dk hs x y
  obtain ⟨vx, hvx, hRx⟩ := hel x.val x.isLt
  obtain ⟨vy, hvy, hRy⟩ := hel y.val y.isLt
  have ex : enc x = vx := by show inner.getD x.val _ = _; rw [List.getD_eq_getElem?_getD, hvx]; rfl
  have ey : enc y = vy := by show inner.getD y.val _ = _; rw [List.getD_eq_getElem?_getD, hvy]; rfl
  rw [ex, ey]
  have hRx2 := Kd.R_step hRx (w1 := sortWorld enc W g 0 m dk os) (fun k hk hlt => sw_far enc W g m dk os k hlt (fun e => hk.1.2 (by rw [e])))
  have hRy2 := Kd.R_step hRy (w1 := sortWorld enc W g 0 m dk os) (fun k hk hlt => sw_far enc W g m dk os k hlt (fun e => hk.1.2 (by rw [e])))
  obtain ⟨Ax, cx, rfl, hlx, hCx⟩ := Kd.R_reads hRx2
  obtain ⟨Ay, cy, rfl, hly, hCy⟩ := Kd.R_reads hRy2
  exact (compare_any _ _ _ _ _ _ _ hlx hCx hly hCy).mono fun e w' ⟨he, hw⟩ => by
   obtain ⟨q, hq⟩ := hw.out
   exact ⟨he, q, #[], by rw [hq, Go.Sort.grow_empty]⟩
 have hs := Any.slices_SortFunc Tryz.sortS enc h1c (fun i j : Fin n => cmpL (xs.getD i.val []) (xs.getD j.val [])) (swo_of Cmp.L fun i : Fin n => xs.getD i.val []) 110 #[] g 0 cap d W eg hcmp hH hgl (by omega)
 rw [hd] at hs
 refine Calls.mono (show Calls Tryz.prog 137 _ W _ from hs) ?_
 rintro e w' ⟨he, d', m, os, hp, hsrt, rfl⟩
 refine ⟨he, ?_, sw_grown enc W g m d' os⟩
 obtain ⟨hp1, _, hp3⟩ := hp
 have hd' : d'.size = n := by rw [hp1, hd]
 have x1 : d'.extract 0 n = d' := (congrArg (fun m => d'.extract 0 m) hd'.symm).trans Array.extract_size
 have x2 : d.extract 0 n = d := (congrArg (fun m => d.extract 0 m) hd.symm).trans Array.extract_size
 rw [x1, x2] at hp3
 have hLn : d'.toList.length = n := by rw [Array.length_toList]; exact hd'
 have hnd : d'.toList.Nodup := hp3.nodup_iff.2 (by
  rw [List.nodup_iff_pairwise_ne, List.pairwise_iff_getElem]
  intro i j hi hj hij
  simp only [d, Array.getElem_toList, Array.getElem_ofFn]
  intro e
  injection e with e
  omega)
 have hdx : d.toList.map (fun i : Fin n => xs.getD i.val []) = xs := by
  apply List.ext_getElem
  ·simp [d, hn]
  ·intro i h1 h2
   simp [d, List.getD_eq_getElem?_getD, h2]
 have hperm : (d'.toList.map fun i : Fin n => xs.getD i.val []).Perm xs := by
  have := hp3.map (fun i : Fin n => xs.getD i.val [])
  rwa [hdx] at this
 have hpw : (d'.toList.map fun i : Fin n => xs.getD i.val []).Pairwise fun a b => leB cmpL a b = true := by
  rw [List.pairwise_map, List.pairwise_iff_getElem]
  intro i j hi hj hij
  have h := hsrt i j (Nat.zero_le _) hij (by omega)
  rw [getElem!_pos d' i (by omega), getElem!_pos d' j (by omega)] at h
  simp only [ltOf, decide_eq_false_iff_not] at h
  simp only [leB, decide_eq_true_eq, Array.getElem_toList]
  exact h
 rw [← sortC_unique Cmp.L hperm hpw]
 refine ⟨fun k => d'.toList.findIdx fun z => z.val == f k, fun _ _ => trivial, d'.toList.map enc, ⟨?_, .inr ⟨g, cap, _, ?_, hbg, sw_at enc W g m d' os hh, ?_, hcm, ?_, ?_⟩⟩, ?_⟩
 ·show _ = _ * 1
  simp
 ·simp [hd']
 ·simp [hd', hnc]
 ·show _ = _ * 1
  rw [putCells_size, hcs, Nat.mul_one]
 ·show List.take (_ * 1) _ = _
  have : (d'.toList.map fun i : Fin n => xs.getD i.val []).zipIdx.length * 1 = d'.size := by simp
  rw [this, putCells_take enc d' cur (by omega)]
 ·show Reps _ 1 _ _
  refine reps_one (by simp) ?_
  intro j p v hj hv
  have hjn : j < n := by
   have := (List.getElem?_eq_some_iff.1 hv).1
   simpa [hd'] using this
  obtain ⟨z, hz⟩ : ∃ z, d'.toList[j]? = some z := ⟨_, List.getElem?_eq_getElem (by omega)⟩
  rw [List.getElem?_zipIdx, List.getElem?_map, hz] at hj
  rw [List.getElem?_map, hz] at hv
  simp only [Option.map_some, Option.some.injEq, Nat.zero_add] at hj hv
  subst hj hv
  obtain ⟨v, hv, hR⟩ := hel z.val z.isLt
  have ez : enc z = v := by show inner.getD z.val _ = _; rw [List.getD_eq_getElem?_getD, hv]; rfl
  refine ⟨v, by rw [ez], ?_⟩
  refine Kd.R_mono (Kd.R_step hR (fun k hk hlt => sw_far enc W g m d' os k hlt (fun e => hk.1.2 (by rw [e])))) ?_
  intro k hk
  refine ⟨⟨trivial, hk.1.2⟩, ?_⟩
  show d'.toList.findIdx (fun y => y.val == f k) = j
  obtain ⟨hjl, hjz⟩ := List.getElem?_eq_some_iff.1 hz
  rw [List.findIdx_eq hjl]
  refine ⟨by rw [hjz, hk.2]; simp, fun i hi => ?_⟩
  have hne : d'.toList[i]'(by omega) ≠ d'.toList[j] := by
   have := List.pairwise_iff_getElem.1 (List.nodup_iff_pairwise_ne.1 hnd) i j (by omega) hjl hi
   exact this
  rw [hk.2, ← hjz]
  simp only [beq_eq_false_iff_ne, ne_eq]
  exact fun e => hne (Fin.ext e)
theorem sortsSets_ok : SortsSets (sortC cmpL) := by
 intro W base v xs hx hS
 obtain ⟨A, c, rfl, _⟩ := Kd.S_reads hS
 rcases Nat.eq_zero_or_pos xs.length with h0 | h0
 ·obtain rfl := List.eq_nil_of_length_eq_zero h0
  refine (show Calls Tryz.prog 137 _ W _ from AnyF.slices_SortFunc_none { Tryz.sortS with } A c (.func (.func 110) #[] #[]) W).mono ?_
  rintro e w' ⟨he, rfl⟩
  exact ⟨he, by rw [show sortC cmpL [] = [] by simp [sortC]]; exact hS, World.grownBy.refl _ _⟩
 ·obtain ⟨g, cap, e, _⟩ := Kd.S_form hS h0
  rw [e] at hS ⊢
  exact (sortSets_pos W base g cap xs hx h0 hS).mono fun _ _ ⟨h1, h2, h3⟩ => ⟨h1, h2, h3⟩
end
end Go.Proofs.YtnncjnjfdhbddaaGreat.Z
namespace Go.Proofs.YtnncjnjfdhbddaaGreat.Z
open Go.RowKit Go.Proofs.YtnncjnjfdhbddaaGreatW.PrintWords Go.Proofs.YtnncjnjfdhbddaaGreatW.PrintLast Go.Proofs.YtnncjnjfdhbddaaGreatW.PrintMore
attribute [local go_sem] max2_int min2_int max_two min_two max_three min_three max_four min_four
set_option linter.unusedVariables false
set_option linter.unusedSimpArgs false
section
open Go.Sort (grow putRow putCells mapBlock onCells ahead Holds PermIn SortedIn SWO flatK HoldsK size_flatK get_flatK)
theorem swo_by {α β : Type} {c : β → β → Int} (h : Cmp c) (f : α → β) : SWO (ltOf fun i j => c (f i) (f j)) where
 irrefl := fun x => by
  have := (h.eq (f x) (f x)).2 rfl
  simp [ltOf, this]
 trans := fun x y z h1 h2 => by
  simp only [ltOf, decide_eq_true_eq] at *
  exact h.trans _ _ _ h1 h2
 ntrans := fun x y z h1 h2 => by
  simp only [ltOf, decide_eq_false_iff_not] at *
  have a := h.le_trans (f z) (f y) (f x) (by simp [leB]; omega) (by simp [leB]; omega)
  simp [leB] at a
  omega
def SortedBy {α β : Type} (c : β → β → Int) (f : α → β) (l l' : List α) : Prop := l'.Perm l ∧ l'.Pairwise fun a b => leB c (f a) (f b) = true
set_option maxHeartbeats 2000000 in
theorem sortGames_by {β : Type} (kd : Kd β) (pr : β → S28) (zb : β) (hsz : kd.sz = 2) (hK : ∀ (w : World) (x : β) (cs : List Value), kd.K w x cs → k28.K w (pr x) cs) (W : World) (base : Nat) (g cap : Nat) (xs : List β) (hx : xs.length ≤ 100000) (hpos : 0 < xs.length)
  (hS : Kd.R kd 28 W base (fun _ => True) (.slice (some ⟨g, 0, none⟩) xs.length cap) xs) :
  Calls Tryz.prog 121 #[.slice (some ⟨g, 0, none⟩) xs.length cap, .func (.func 122) #[] #[]] W fun e w' => e = .returned (.tuple #[]) ∧ ∃ xs', SortedBy cmpLL (fun x => (pr x).f1) xs xs' ∧ Kd.R kd 28 w' base (fun _ => True) (.slice (some ⟨g, 0, none⟩) xs.length cap) xs' ∧ W.grownBy w' (some g) := by
 have eg : ∀ args w, (callFunc 122 args).run Tryz.prog w = .ok (.enter 122 args) w := enters_of Tryz.func122 (by kernel_rfl) rfl
 obtain ⟨h0, inner, ⟨hil, ho2⟩, hr⟩ := hS
 rcases ho2 with ⟨_, hz⟩ | ⟨g', cap', cur, he, hbg, hh, hnc, hcm, hcs, hct⟩
 ·omega
 injection he with he1 _ he2
 injection he1 with he1
 injection he1 with he1
 subst he1 he2
 have hsz1 : kd.sz = 2 := hsz
 rw [hsz1] at hil hct hcs hr
 generalize hn : xs.length = n at *
 haveI : Inhabited (Fin n) := ⟨⟨0, hpos⟩⟩
 let enc : Fin n → List Value := fun i => (inner.drop (i.val * 2)).take 2
 have hel : ∀ (i : Fin n), kd.M W base (fun k => True ∧ some k ≠ some g) (xs.getD i.val zb) (enc i) := by
  intro i
  have hi := i.isLt
  exact hr.2 i.val _ (by rw [List.getD_eq_getElem?_getD, List.getElem?_eq_getElem (by omega)]; rfl)
 have hk : ∀ i, (enc i).length = 2 := fun i => (kd.K_len (kd.K_of_M (hel i))).trans hsz
 have h1c : ∀ i, ∀ v ∈ enc i, v.oneCell' = true := fun i => kd.K_one (kd.K_of_M (hel i))
 have henc : ∀ (i : Fin n) (c : Nat), c < 2 → (enc i)[c]! = inner[i.val * 2 + c]! := by
  intro i c hc
  have hi := i.isLt
  have := hk i
  rw [getElem!_pos (enc i) c (by omega), getElem!_pos inner _ (by omega)]
  simp [enc]
 let d : Array (Fin n) := Array.ofFn fun i => i
 have hd : d.size = n := by simp [d]
 have hdj : ∀ j (h : j < n), d[j]! = ⟨j, h⟩ := by
  intro j h
  rw [getElem!_pos d j (by omega)]
  simp [d]
 have hgl : g < W.heap.size := blk_lt hh
 have hH : HoldsK enc 2 W g 0 d := by
  intro t ht
  rw [size_flatK, hd] at ht
  refine ⟨?_, blk_frozen hh _⟩
  rw [Nat.zero_add, blk_cell hh t, get_flatK enc 2 d t (by rw [hd]; exact ht), hdj (t / 2) (by omega), henc _ _ (by omega)]
  show cur[t]? = some (inner[t / 2 * 2 + t % 2]!)
  rw [show t / 2 * 2 + t % 2 = t by omega, getElem!_pos inner t (by omega)]
  have e1 : inner[t]? = some inner[t] := List.getElem?_eq_getElem (by omega)
  rw [← e1, ← hct, List.getElem?_take, if_pos ht]
  simp
 have hstep : ∀ (m : Nat) (os : Array Obj) (dk : Array (Fin n)) (i : Fin n), kd.M (sortWorldK enc 2 W g 0 m dk os) base (fun k => True ∧ some k ≠ some g) (xs.getD i.val zb) (enc i) :=
  fun m os dk i => Kd.M_step (hel i) (fun k hk hlt => sw_far id W g m (flatK enc 2 dk) os k hlt (fun e => hk.2 (by rw [e])))
 have hcmp : CmpLays Tryz.prog 122 #[] enc 2 (fun i j : Fin n => cmpLL (pr (xs.getD i.val zb)).f1 (pr (xs.getD j.val zb)).f1) g 0 d.size W := by
  intro m os dk hs x y
  obtain ⟨A1, c1, e1, l1, r1⟩ := k28_open (hK _ _ _ (kd.K_of_M (hstep m os dk x)))
  obtain ⟨A2, c2, e2, l2, r2⟩ := k28_open (hK _ _ _ (kd.K_of_M (hstep m os dk y)))
  rw [e1, e2]
  exact compareGames_any _ _ A1 c1 _ A2 c2 _ _ r1 r2
 have hs := AnyQ.slices_SortFunc Tryz.sortG 2 Tryz.isAgg28 Tryz.sizeOf28 enc hk h1c (fun i j : Fin n => cmpLL (pr (xs.getD i.val zb)).f1 (pr (xs.getD j.val zb)).f1) (swo_by Cmp.LL fun i : Fin n => (pr (xs.getD i.val zb)).f1) 122 #[] g 0 cap d W eg hcmp hH hgl (by omega)
 rw [hd] at hs
 refine Calls.mono (show Calls Tryz.prog 121 _ W _ from hs) ?_
 rintro e w' ⟨he, d', m, os, hp, hsrt, rfl⟩
 obtain ⟨hp1, _, hp3⟩ := hp
 have hd' : d'.size = n := by rw [hp1, hd]
 have x1 : d'.extract 0 n = d' := (congrArg (fun m => d'.extract 0 m) hd'.symm).trans Array.extract_size
 have x2 : d.extract 0 n = d := (congrArg (fun m => d.extract 0 m) hd.symm).trans Array.extract_size
 rw [x1, x2] at hp3
 have hdx : d.toList.map (fun i : Fin n => xs.getD i.val zb) = xs := by
  apply List.ext_getElem
  ·simp [d, hn]
  ·intro i h1 h2
   simp [d, List.getD_eq_getElem?_getD, h2]
 refine ⟨he, d'.toList.map (fun i : Fin n => xs.getD i.val zb), ⟨?_, ?_⟩, ⟨fun _ _ => trivial, (flatK enc 2 d').toList, ⟨?_, .inr ⟨g, cap, _, ?_, hbg, sw_at id W g m (flatK enc 2 d') os hh, ?_, hcm, ?_, ?_⟩⟩, ?_⟩, sw_grown id W g m (flatK enc 2 d') os⟩
 ·have := hp3.map (fun i : Fin n => xs.getD i.val zb)
  rwa [hdx] at this
 ·rw [List.pairwise_map, List.pairwise_iff_getElem]
  intro i j hi hj hij
  have h := hsrt i j (Nat.zero_le _) hij (by simpa [hd'] using hj)
  have hj' : j < d'.size := by simpa using hj
  rw [getElem!_pos d' i (by omega), getElem!_pos d' j hj'] at h
  simp only [ltOf, decide_eq_false_iff_not] at h
  simp only [leB, decide_eq_true_eq, Array.getElem_toList]
  exact h
 ·rw [hsz1]
  simp [hd']
 ·simp [hd']
 ·simp [hd', hnc]
 ·rw [hsz1]
  rw [putCells_size, hcs]
 ·rw [hsz1]
  have h1 : (d'.toList.map fun i : Fin n => xs.getD i.val zb).length * 2 = (flatK enc 2 d').size := by simp
  rw [h1, putCells_take id (flatK enc 2 d') cur (by simp [hd', hcs]; omega)]
  simp
 ·rw [hsz1]
  refine ⟨by simp, fun j p hj => ?_⟩
  rw [List.getElem?_map] at hj
  obtain ⟨z, hz, rfl⟩ := Option.map_eq_some_iff.1 hj
  obtain ⟨hjl, hjz⟩ := List.getElem?_eq_some_iff.1 hz
  have hjn : j < n := by simpa [hd'] using hjl
  have e1 : ((flatK enc 2 d').toList.drop (j * 2)).take 2 = enc z := by
   apply List.ext_getElem
   ·simp [hk, hd']
    omega
   ·intro c h1 h2
    rw [hk] at h2
    have h3 : j * 2 + c < (flatK enc 2 d').size := by simp [hd']; omega
    rw [List.getElem_take, List.getElem_drop, Array.getElem_toList]
    have h4 := get_flatK enc 2 d' (j * 2 + c) (by simpa using h3)
    rw [getElem!_pos (flatK enc 2 d') (j * 2 + c) h3, show (j * 2 + c) / 2 = j by omega, show (j * 2 + c) % 2 = c by omega] at h4
    have h5 : d'[j]! = z := by
     rw [getElem!_pos d' j (by omega), ← hjz]
     simp
    rw [h5, getElem!_pos (enc z) c (by rw [hk]; exact h2)] at h4
    exact h4
  rw [e1]
  exact kd.M_mono (fun k hk => ⟨trivial, hk.2⟩) (hstep m os d' z)
end
end Go.Proofs.YtnncjnjfdhbddaaGreat.Z
namespace Go.Proofs.YtnncjnjfdhbddaaGreat.Z
open Go.RowKit Go.Proofs.YtnncjnjfdhbddaaGreatW.PrintWords Go.Proofs.YtnncjnjfdhbddaaGreatW.PrintLast Go.Proofs.YtnncjnjfdhbddaaGreatW.PrintMore
attribute [local go_sem] max2_int min2_int max_two min_two max_three min_three max_four min_four
set_option linter.unusedVariables false
set_option linter.unusedSimpArgs false
def kGS : Kd S28 where
 sz := 2
 E := k28.E
 K := k28.K
 M := fun w base ok x cs => ∃ v, cs = [.int .i64 x.f0, v] ∧ Kd.S (Kd.slice 3 (Kd.int .i64)) 36 w base ok v x.f1
 K_len := fun h => k28.K_len h
 K_one := fun h => k28.K_one h
 K_below := fun hb h => k28.K_below hb h
 K_of_M := fun ⟨_, e, h⟩ => e ▸ k28.K_of_M (k28_mkM _ _ _ _ (Kd.S_R h))
 M_mono := fun hok ⟨v, e, h⟩ => ⟨v, e, Kd.S_mono h hok⟩
 M_bound := fun ⟨v, e, h⟩ => ⟨v, e, Kd.S_bound h⟩
 M_move := fun hm ⟨v, e, h⟩ => ⟨v, e, Kd.S_move h hm⟩
 M_lower := fun hb ⟨v, e, h⟩ => ⟨v, e, Kd.S_lower h hb⟩
theorem kGS_M {w : World} {base : Nat} {ok : Nat → Prop} {x : S28} {cs : List Value} (h : kGS.M w base ok x cs) : k28.M w base ok x cs := by
 obtain ⟨v, rfl, h⟩ := h
 exact k28_mkM _ _ _ _ (Kd.S_R h)
theorem R_told {α β : Type} {d : Kd α} {d' : Kd β} (pr : α → β) (hsz : d'.sz = d.sz) (hM : ∀ (w : World) (base : Nat) (ok : Nat → Prop) (x : α) (cs : List Value), d.M w base ok x cs → d'.M w base ok (pr x) cs) {e base : Nat} {ok : Nat → Prop} {w : World} {v : Value} {xs : List α} (h : d.R e w base ok v xs) : d'.R e w base ok v (xs.map pr) := by
 obtain ⟨hok, inner, hown, hr⟩ := h
 refine ⟨hok, inner, by rw [List.length_map, hsz]; exact hown, by rw [List.length_map, hsz]; exact hr.1, fun j p hj => ?_⟩
 rw [List.getElem?_map] at hj
 obtain ⟨x, hx, rfl⟩ := Option.map_eq_some_iff.1 hj
 rw [hsz]
 exact hM _ _ _ _ _ (hr.2 j x hx)
theorem S_of_tags {α : Type} {d : Kd α} {f : Nat → Nat} {e base : Nat} {ok : Nat → Prop} {w : World} {v : Value} {ps : List (α × Nat)} (h : (Kd.tag f d).R e w base ok v ps) (hnd : (ps.map Prod.snd).Nodup) : Kd.S d e w base ok v (ps.map Prod.fst) := by
 obtain ⟨hok, inner, hown, hr⟩ := h
 have hl : (ps.map Prod.fst).zipIdx.length = ps.length := by simp
 refine ⟨fun k => (ps.map Prod.snd).idxOf (f k), hok, inner, by rw [hl]; exact hown, by rw [hl]; exact hr.1, fun j p hj => ?_⟩
 rw [List.getElem?_zipIdx, List.getElem?_map] at hj
 obtain ⟨y, hy, rfl⟩ := Option.map_eq_some_iff.1 hj
 obtain ⟨x, hx, rfl⟩ := Option.map_eq_some_iff.1 hy
 refine d.M_mono (fun k hk => ⟨hk.1, ?_⟩) (hr.2 j x hx)
 obtain ⟨hjl, hjx⟩ := List.getElem?_eq_some_iff.1 hx
 show (ps.map Prod.snd).idxOf (f k) = 0 + j
 have e2 : (ps.map Prod.snd)[j]'(by simpa using hjl) = f k := by rw [List.getElem_map, hjx]; exact hk.2.symm
 rw [← e2, Nat.zero_add]
 exact hnd.idxOf_getElem j (by simpa using hjl)
theorem tags_of_S {α : Type} {d : Kd α} {e base : Nat} {ok : Nat → Prop} {w : World} {v : Value} {xs : List α} (h : Kd.S d e w base ok v xs) : ∃ (f : Nat → Nat) (ps : List (α × Nat)), (Kd.tag f d).R e w base ok v ps ∧ ps.map Prod.fst = xs ∧ (ps.map Prod.snd).Nodup := by
 obtain ⟨f, h⟩ := h
 refine ⟨f, xs.zipIdx, h, by simp, ?_⟩
 have e : xs.zipIdx.map Prod.snd = List.range' 0 xs.length := by simp [List.range'_eq_map_range]
 rw [e]
 exact List.nodup_range'
end Go.Proofs.YtnncjnjfdhbddaaGreat.Z
namespace Go.Proofs.YtnncjnjfdhbddaaGreat.Z
open Go.RowKit Go.Proofs.YtnncjnjfdhbddaaGreatW.PrintWords Go.Proofs.YtnncjnjfdhbddaaGreatW.PrintLast Go.Proofs.YtnncjnjfdhbddaaGreatW.PrintMore
attribute [local go_sem] max2_int min2_int max_two min_two max_three min_three max_four min_four
set_option linter.unusedVariables false
set_option linter.unusedSimpArgs false
def fillB (p : Nat → Bool) (N kk : Nat) : List Bool := (List.range kk).map p ++ List.replicate (N - kk) false
theorem fillB_zero (p : Nat → Bool) (N : Nat) : fillB p N 0 = List.replicate N false := by simp [fillB]
theorem fillB_all (p : Nat → Bool) (N : Nat) : fillB p N N = (List.range N).map p := by simp [fillB]
theorem fillB_len (p : Nat → Bool) (N kk : Nat) (h : kk ≤ N) : (fillB p N kk).length = N := by simp [fillB]; omega
theorem fillB_set (p : Nat → Bool) (N kk : Nat) (h : kk < N) : (fillB p N kk).set kk (p kk) = fillB p N (kk + 1) := by
 unfold fillB
 obtain ⟨d, hd⟩ : ∃ d, N - kk = d + 1 := ⟨N - kk - 1, by omega⟩
 rw [List.set_append_right _ _ (by simp), hd, show N - (kk + 1) = d by omega, List.range_succ]
 simp [List.replicate_succ]
theorem madeCells_one (v : Value) (N : Nat) : madeCells #[v] N = (List.replicate N v).toArray := by
 apply Array.ext
 ·simp [size_madeCells]
 ·intro i h1 h2; simp [madeCells, Nat.mod_one]
def VRow (h N : Nat) (l : List Bool) (W : World) : Prop := W.heap[h + 1]? = some (.cells (l.map Value.bool).toArray 4 (0, 0))
theorem VRow.cell {h N : Nat} {l : List Bool} {W : World} (H : VRow h N l W) (k : Nat) (hk : k < l.length) : W.cell? ⟨h + 1, k, none⟩ = some (.bool (l.getD k false)) := by
 rw [blk_cell H k]
 simp [hk, List.getD_eq_getElem?_getD]
theorem VRow.free {h N : Nat} {l : List Bool} {W : World} (H : VRow h N l W) (k : Nat) : W.frozen? ⟨h + 1, k, none⟩ = false := blk_frozen H k
theorem VRow.set {h N : Nat} {l : List Bool} {W : World} (H : VRow h N l W) (k : Nat) (b : Bool) : VRow h N (l.set k b) (W.setCell ⟨h + 1, k, none⟩ (.bool b)) := by
 have := blk_set H k (.bool b)
 unfold VRow
 rw [this]
 simp [List.map_set]
def VHdr (h n N : Nat) (W : World) : Prop := W.heap[h + 1 + 1]? = some (.cells #[.int .i64 (n : Int), .slice (some ⟨h + 1, 0, none⟩) N N] 68 (0, 0))
def VRes (h : Nat) (W : World) : Prop := W.heap[h]? = some (.cells #[.int .i64 0, .slice none 0 0] 68 (0, 0))
set_option maxRecDepth 100000 in
set_option maxHeartbeats 4000000 in
theorem votesOf_any (n : Nat) (hn : n ≤ 9) (p : Nat → Bool) (g : Nat) (cb : Array Value) (w : World)
  (eg : ∀ args w, (callFunc g args).run Tryz.prog w = .ok (.enter g args) w)
  (hp : ∀ W m, m < 2 ^ n → Below w.heap.size w W → Calls Tryz.prog g (#[.int .i64 (m : Int)] ++ cb) W fun e w' => e = .returned (.bool (p m)) ∧ Below W.heap.size W w') :
  Calls Tryz.prog 112 #[.int .i64 (n : Int), .func (.func g) #[] cb] w fun e w' => ∃ v : Value, e = .returned (.agg #[.int .i64 (n : Int), v]) ∧ Kd.R Kd.bool 4 w' w.heap.size (fun _ => True) v ((List.range (2 ^ n)).map p) ∧ Below w.heap.size w w' := by
 have hu68 := Tryz.underlying68
 have HP := Aside0.mk hp
 clear hp
 obtain ⟨N, hN⟩ : ∃ N : Nat, N = 2 ^ n := ⟨_, rfl⟩
 have h4 : wrap64 (2 ^ n) = (N : Int) := wrap_pow hn hN
 have kmk := print_make_of (P := Tryz.prog) 66 4 (.bool false) 1 Tryz.underlying66 infoBo rfl (by decide) N (by have := pow_le9 hn; omega)
 have HN := Aside0.mk hN
 have HL := Aside0.mk (hN ▸ pow_le9 hn : N ≤ 512)
 clear hN
 go_enter Tryz.func112, Tryz.ntmps112
 go_wp2
 clear kmk h4
 go_loopg [6, 15] N (fun gg _ s15 wr => ∃ kk : Nat, kk ≤ N ∧ N - kk ≤ gg ∧ s15 = .int .i64 kk ∧ Aside0 (Below w.heap.size w wr) ∧ Aside0 (VRow w.heap.size N (fillB p N kk) wr) ∧ Aside0 (VHdr w.heap.size n N wr) ∧ Aside0 (VRes w.heap.size wr))
 case atStart =>
  refine ⟨0, Nat.zero_le _, by omega, rfl, ⟨((Below.refl _ _).alloc (Nat.le_refl _) _ |>.alloc (by simp) _ |>.alloc (by simp; omega) _)⟩, ⟨?_⟩, ⟨?_⟩, ⟨?_⟩⟩
  ·unfold VRow
   rw [fillB_zero, madeCells_one, heap3_1, List.map_replicate]
  ·unfold VHdr
   rw [heap3_2]
  ·unfold VRes
   rw [heap3_0]
 case round =>
  obtain ⟨kk, hkk, hg, rfl, BW, HR, HH, HZ⟩ := hrel
  by_cases hlt : kk < N
  ·have hltz : (kk : Int) < (N : Int) := by omega
   have h0z : (0 : Int) ≤ (kk : Int) := by omega
   have hl512 := HL.out
   have hc1 : wr.cell? ⟨w.heap.size + 1 + 1, 1, none⟩ = some (.slice (some ⟨w.heap.size + 1, 0, none⟩) N N) := (blk_cell HH.out 1).trans rfl
   have hc2 := HR.out.cell kk (by rw [fillB_len _ _ _ hkk]; exact hlt)
   have hf2 := HR.out.free kk
   go_wp2
   go_region_held3 (fun w' => w'.cell? ⟨w.heap.size + 1 + 1, 1, none⟩ = some (.slice (some ⟨w.heap.size + 1, 0, none⟩) N N)) (go_keep)
    (first | (go_at_fn g; refine (HP.out _ kk (by have := HN.out; omega) (below_drew BW.out)).mono ?_; rintro e w1 ⟨rfl, hb1⟩; have hh1 : w1.cell? ⟨w.heap.size + 1 + 1, 1, none⟩ = some (.slice (some ⟨w.heap.size + 1, 0, none⟩) N N) := (hb1.cell (World.block_lt_of_cell? wr _ hc1)).trans hc1; have hc3 : w1.cell? ⟨w.heap.size + 1, kk, none⟩ = some (.bool ((fillB p N kk).getD kk false)) := (hb1.cell (World.block_lt_of_cell? wr _ hc2)).trans hc2; have hf3 : w1.frozen? ⟨w.heap.size + 1, kk, none⟩ = false := (hb1.frozen (World.block_lt_of_cell? wr _ hc2)).trans hf2; have HB1 := Aside0.mk hb1; clear hb1))
   go_wp2
   have hh := below_drew BW.out
   go_roundg (N - (kk + 1))
   case measure => omega
   case rel =>
    have hb1 := HB1.out
    have hlt1 : w.heap.size + 1 + 1 < wr.heap.size := blk_lt HH.out
    have r1 : VRow w.heap.size N (fillB p N kk) w1 := (hb1.block _ (Nat.lt_trans (Nat.lt_succ_self _) hlt1)).trans HR.out
    have r2 : VHdr w.heap.size n N w1 := (hb1.block _ hlt1).trans HH.out
    have r3 : VRes w.heap.size w1 := (hb1.block _ (Nat.lt_trans (Nat.lt_succ_self _) (Nat.lt_trans (Nat.lt_succ_self _) hlt1))).trans HZ.out
    refine ⟨kk + 1, by omega, by omega, by go_num, ⟨?_⟩, ⟨?_⟩, ⟨?_⟩, ⟨?_⟩⟩
    ·exact (Below.trans hh (hb1.mono hh.size)).setCell (by simp) _
    ·have := r1.set kk (p kk)
     rwa [fillB_set p N kk hlt] at this
    ·exact blk_far r2 (by simp) _
    ·exact blk_far r3 (by simp) _
  ·have hltz : ¬ (kk : Int) < (N : Int) := by omega
   have : kk = N := by omega
   subst this
   have hc0 : wr.cell? ⟨w.heap.size + 1 + 1, 0, none⟩ = some (.int .i64 (n : Int)) := (blk_cell HH.out 0).trans rfl
   have hc1 : wr.cell? ⟨w.heap.size + 1 + 1, 1, none⟩ = some (.slice (some ⟨w.heap.size + 1, 0, none⟩) kk kk) := (blk_cell HH.out 1).trans rfl
   have hz0 : wr.cell? ⟨w.heap.size, 0, none⟩ = some (.int .i64 0) := (blk_cell HZ.out 0).trans rfl
   have hz1 : wr.cell? ⟨w.heap.size, 1, none⟩ = some (.slice none 0 0) := (blk_cell HZ.out 1).trans rfl
   have hf0 := blk_frozen HZ.out 0
   have hf1 := blk_frozen HZ.out 1
   go_wp2
   refine bodyPost_ret (results_cell_row rfl _ _ w.heap.size 68 #[.int .i64 (n : Int), .slice (some ⟨w.heap.size + 1, 0, none⟩) kk kk] (0, 0) _ rfl (blk_set (blk_set HZ.out 0 _) 1 _) Tryz.underlying68 rfl (by kernel_rfl)) rfl ?_
   refine ⟨_, rfl, ?_, ((BW.out.setCell (Nat.le_refl _) _).setCell (Nat.le_refl _) _)⟩
   rw [← HN.out, ← fillB_all]
   have hlen := fillB_len p kk kk (Nat.le_refl _)
   have hrow : VRow w.heap.size kk (fillB p kk kk) ((wr.setCell ⟨w.heap.size, 0, none⟩ (.int .i64 (n : Int))).setCell ⟨w.heap.size, 1, none⟩ (.slice (some ⟨w.heap.size + 1, 0, none⟩) kk kk)) := blk_far (blk_far HR.out (by simp) _) (by simp) _
   refine Kd.R_of_own ⟨by simp [encs], .inr ⟨w.heap.size + 1, kk, _, by rw [hlen], by omega, hrow, by omega, by have := HL.out; simp only [maxLen]; omega, ?_, ?_⟩⟩ (fun _ _ => trivial)
   ·simp [hlen]
   ·simp [encs, List.take_of_length_le]
end Go.Proofs.YtnncjnjfdhbddaaGreat.Z
namespace Go.Proofs.YtnncjnjfdhbddaaGreat.Z
open Go.RowKit Go.Proofs.YtnncjnjfdhbddaaGreatW.PrintWords Go.Proofs.YtnncjnjfdhbddaaGreatW.PrintLast Go.Proofs.YtnncjnjfdhbddaaGreatW.PrintMore
attribute [local go_sem] max2_int min2_int max_two min_two max_three min_three max_four min_four
set_option linter.unusedVariables false
set_option linter.unusedSimpArgs false
def tabs : Nat → List Nat
 | 0 => [0, 1]
 | n + 1 => (tabs n).flatMap fun a => ((tabs n).filter fun b => a &&& b == a).map fun b => (b * 2 ^ 2 ^ n) ||| a
def tabI (l : List Nat) : List Int := l.map fun (m : Nat) => (m : Int)
theorem tabI_get (l : List Nat) (i : Nat) : rd (tabI l) (i : Int) = ((l.getD i 0 : Nat) : Int) := by
 simp only [rd, tabI, Int.toNat_natCast, List.getD_eq_getElem?_getD, List.getElem?_map]
 cases l[i]? <;> simp
theorem tabs_len : ∀ n, n ≤ 4 → (tabs n).length ≤ 168 := by decide +kernel
theorem tabs_lt : ∀ n, n ≤ 4 → ∀ m ∈ tabs n, m < 65536 := by decide +kernel
def inner (n : Nat) (l : List Nat) (a : Nat) : List Nat := (l.filter fun b => a &&& b == a).map fun b => (b * 2 ^ 2 ^ n) ||| a
def tabsUpto (n : Nat) (l : List Nat) (kk jj : Nat) : List Nat := ((l.take kk).flatMap fun a => inner n l a) ++ (inner n (l.take jj) (l.getD kk 0))
theorem upto_start (n : Nat) (l : List Nat) : tabsUpto n l 0 0 = [] := by simp [tabsUpto, inner]
theorem upto_yes (n : Nat) (l : List Nat) (kk jj : Nat) (hj : jj < l.length) (h : (l.getD kk 0 &&& l.getD jj 0 == l.getD kk 0) = true) :
  tabsUpto n l kk (jj + 1) = tabsUpto n l kk jj ++ [(l.getD jj 0 * 2 ^ 2 ^ n) ||| l.getD kk 0] := by
 have e : l.take (jj + 1) = l.take jj ++ [l.getD jj 0] := by rw [List.take_succ_eq_append_getElem hj]; simp [List.getD_eq_getElem?_getD, hj]
 simp only [tabsUpto, inner, e, List.filter_append, List.map_append, List.append_assoc]
 rw [List.filter_cons, if_pos h]
 rfl
theorem upto_no (n : Nat) (l : List Nat) (kk jj : Nat) (hj : jj < l.length) (h : (l.getD kk 0 &&& l.getD jj 0 == l.getD kk 0) = false) :
  tabsUpto n l kk (jj + 1) = tabsUpto n l kk jj := by
 have e : l.take (jj + 1) = l.take jj ++ [l.getD jj 0] := by rw [List.take_succ_eq_append_getElem hj]; simp [List.getD_eq_getElem?_getD, hj]
 simp only [tabsUpto, inner, e, List.filter_append, List.map_append]
 rw [List.filter_cons, if_neg (by rw [h]; simp)]
 simp
theorem upto_next (n : Nat) (l : List Nat) (kk : Nat) (hk : kk < l.length) : tabsUpto n l kk l.length = tabsUpto n l (kk + 1) 0 := by
 have e : l.take (kk + 1) = l.take kk ++ [l.getD kk 0] := by rw [List.take_succ_eq_append_getElem hk]; simp [List.getD_eq_getElem?_getD, hk]
 simp [tabsUpto, inner, e]
theorem upto_end (n : Nat) (l : List Nat) : tabsUpto n l l.length 0 = l.flatMap fun a => inner n l a := by simp [tabsUpto, inner]
theorem inner_len (n : Nat) (l : List Nat) (a : Nat) : (inner n l a).length ≤ l.length := by
 simp only [inner, List.length_map]
 exact List.length_filter_le _ _
theorem flat_len (n : Nat) (l m : List Nat) : (m.flatMap fun a => inner n l a).length ≤ m.length * l.length := by
 induction m with
 | nil => simp
 | cons a m ih =>
  rw [List.flatMap_cons, List.length_append, List.length_cons, Nat.succ_mul]
  have := inner_len n l a
  omega
theorem upto_len (n : Nat) (l : List Nat) (kk jj : Nat) (hl : l.length ≤ 168) : (tabsUpto n l kk jj).length ≤ 30000 := by
 unfold tabsUpto
 rw [List.length_append]
 have h1 := flat_len n l (l.take kk)
 have h2 := inner_len n (l.take jj) (l.getD kk 0)
 have h3 : (l.take kk).length ≤ 168 := Nat.le_trans (by simp; omega) hl
 have h4 : (l.take jj).length ≤ 168 := Nat.le_trans (by simp; omega) hl
 have h5 : (l.take kk).length * l.length ≤ 168 * 168 := Nat.mul_le_mul h3 hl
 omega
theorem pow2_le (n : Nat) (hn : n < 4) : 2 ^ 2 ^ n ≤ 256 ∧ 2 ^ n ≤ 8 := by
 have : n = 0 ∨ n = 1 ∨ n = 2 ∨ n = 3 := by omega
 rcases this with h | h | h | h <;> subst h <;> decide
set_option maxRecDepth 100000 in
set_option maxHeartbeats 8000000 in
theorem tables_step (n : Nat) (hn : n < 4) (ih : ∀ w, Calls Tryz.prog 116 #[.int .i64 (n : Int)] w fun e w' => ∃ v : Value, e = .returned v ∧ Kd.R (Kd.int .i64) 3 w' w.heap.size (fun _ => True) v (tabI (tabs n)) ∧ Below w.heap.size w w') (w : World) :
  Calls Tryz.prog 116 #[.int .i64 ((n + 1 : Nat) : Int)] w fun e w' => ∃ v : Value, e = .returned v ∧ Kd.R (Kd.int .i64) 3 w' w.heap.size (fun _ => True) v (tabI (tabs (n + 1))) ∧ Below w.heap.size w w' := by
 have h1 := tabs_len n (by omega)
 have h2 := tabs_lt n (by omega)
 have h3 : tabs (n + 1) = (tabs n).flatMap fun a => inner n (tabs n) a := rfl
 rw [h3]
 generalize tabs n = l at *
 have ih2 : ∀ w, Calls Tryz.prog 116 #[.int .i64 (n : Int)] w fun e w' => ∃ A1 c1, e = .returned (.slice A1 l.length c1) ∧ Kd.C (Kd.int .i64) w' A1 l.length (tabI l) ∧ Below w.heap.size w w' := fun w => (ih w).mono fun e w' ⟨v, he, hR, hB⟩ => by
  obtain ⟨A1, c1, rfl, _, hC⟩ := Kd.R_reads hR
  have e1 : (tabI l).length = l.length := by simp [tabI]
  rw [e1] at he hC
  exact ⟨A1, c1, he, hC, hB⟩
 have IH := Aside0.mk ih2
 have HL := Aside0.mk h2
 have HL1 := Aside0.mk h1
 have hz : ((((n + 1 : Nat) : Int)) == 0) = false := beq_eq_false_iff_ne.mpr (by omega)
 have hz2 : wrap64 (((n + 1 : Nat) : Int) - 1) = (n : Int) := by unfold wrap64; omega
 obtain ⟨hp1, hp2⟩ := pow2_le n hn
 have hsh : IntKind.u64.wrap (2 ^ n) = ((2 ^ n : Nat) : Int) := by
  have : n = 0 ∨ n = 1 ∨ n = 2 ∨ n = 3 := by omega
  rcases this with h | h | h | h <;> subst h <;> decide
 have HPS := Aside0.mk (rfl : 2 ^ 2 ^ n = 2 ^ 2 ^ n)
 obtain ⟨sh, hshd⟩ : ∃ sh, sh = 2 ^ n := ⟨_, rfl⟩
 rw [← hshd] at hsh
 have HSH := Aside0.mk hshd
 clear ih ih2 h2 h3 HPS hshd
 have HUL := Aside0.mk (fun kk jj => upto_len n l kk jj h1)
 generalize hN : ((n + 1 : Nat) : Int) = N1 at *
 have hN2 : N1 - 1 = (n : Int) := by omega
 have hN3 : 1 ≤ N1 := by omega
 have hN4 : N1 ≤ 4 := by omega
 clear hN
 obtain ⟨N, hNl⟩ : ∃ N, N = l.length := ⟨_, rfl⟩
 rw [← hNl] at IH h1
 have HN := Aside0.mk hNl
 clear hNl
 go_enter Tryz.func116, Tryz.ntmps116
 go_wp2_with (go_at_call 116; refine (IH.out _).mono ?_; rintro e w1 ⟨A1, c1, rfl, hC, hb⟩; have HC := Aside0.mk hC; have HB := Aside0.mk hb; clear hb hC)
 clear IH
 go_loopg [4, 6, 8, 18, 22, 23, 24] N (fun gg v4 _ _ s18 _ _ _ wr => ∃ kk : Nat, kk ≤ N ∧ N - kk ≤ gg ∧ s18 = .int .i64 kk ∧ Aside0 (Below w1.heap.size w1 wr) ∧ Aside0 (Kd.R (Kd.int .i64) 3 wr w1.heap.size (fun _ => True) v4 (tabI (tabsUpto n l kk 0))))
 case atStart =>
  refine ⟨0, by omega, by omega, rfl, ⟨(Below.refl _ _).alloc (Nat.le_refl _) _⟩, ⟨?_⟩⟩
  rw [upto_start]
  exact Kd.R_of_own (xs := []) ⟨rfl, .inr ⟨w1.heap.size, 0, #[], rfl, Nat.le_refl _, heap1_0 _ _, Nat.le_refl _, by simp [maxLen], rfl, rfl⟩⟩ (fun _ _ => trivial)
 case round =>
  obtain ⟨kk, hkk, hg, rfl, BW, HO⟩ := hrel
  by_cases hlt : kk < N
  ·have hltz : (kk : Int) < (N : Int) := by omega
   have h0z : (0 : Int) ≤ (kk : Int) := by omega
   obtain ⟨ad, e, hcell⟩ := Kd.at_int (Kd.C_below HC.out BW.out) (kk : Int) h0z hltz
   rw [tabI_get, Int.toNat_natCast] at hcell
   subst e
   have ha := HL.out (l.getD kk 0) (by have := HN.out; simp [List.getD_eq_getElem?_getD, show kk < l.length by omega])
   have HK := Aside0.mk (rfl : l.getD kk 0 = l.getD kk 0)
   generalize hav : l.getD kk 0 = a at hcell ha
   have HAV := Aside0.mk hav
   clear hav
   go_wp2
   clear hcell
   obtain ⟨wo, hwo⟩ : ∃ wo : World, wo = wr := ⟨_, rfl⟩
   subst hwo
   go_loopg [4, 8, 24] N (fun gg2 v4 _ s24 wr2 => ∃ jj : Nat, jj ≤ N ∧ N - jj ≤ gg2 ∧ s24 = .int .i64 jj ∧ Aside0 (Below w1.heap.size w1 wr2) ∧ Aside0 (Kd.R (Kd.int .i64) 3 wr2 w1.heap.size (fun _ => True) v4 (tabI (tabsUpto n l kk jj))))
   case atStart => exact ⟨0, by omega, by omega, rfl, BW, HO⟩
   case round =>
    clear BW HO
    obtain ⟨jj, hjj, hg2, rfl, BW, HO⟩ := hrel
    by_cases hlt2 : jj < N
    ·have hltz2 : (jj : Int) < (N : Int) := by omega
     have h0z2 : (0 : Int) ≤ (jj : Int) := by omega
     obtain ⟨ad2, e, hcell2⟩ := Kd.at_int (Kd.C_below HC.out BW.out) (jj : Int) h0z2 hltz2
     rw [tabI_get, Int.toNat_natCast] at hcell2
     injection e with e
     subst e
     have hb := HL.out (l.getD jj 0) (by have := HN.out; simp [List.getD_eq_getElem?_getD, show jj < l.length by omega])
     have hyes := upto_yes n l kk jj (by have := HN.out; omega)
     have hno := upto_no n l kk jj (by have := HN.out; omega)
     rw [HAV.out] at hyes hno
     generalize hbv : l.getD jj 0 = b at hcell2 hb hyes hno
     clear hbv
     have hand := and_nat a b (by omega) (by omega)
     have hbl : b * 2 ^ 2 ^ n ≤ 65535 * 256 := Nat.mul_le_mul (by omega) hp1
     have hor := or_nat (b * 2 ^ 2 ^ n) a (by omega) (by omega)
     have HUL2 := Aside0.mk (HUL.out kk jj)
     cases hq : (a &&& b == a) with
     | false =>
      have HNO := Aside0.mk (hno hq)
      have hq2 : (((a &&& b : Nat) : Int) == (a : Int)) = false := by
       rw [beq_eq_false_iff_ne] at hq ⊢
       omega
      generalize a &&& b = ab at hand hq2
      clear hno hyes hq hor
      go_wp2
      go_roundg (N - (jj + 1))
      case measure => omega
      case rel => exact ⟨jj + 1, by omega, by omega, by go_num, BW, ⟨by rw [HNO.out]; exact HO.out⟩⟩
     | true =>
      have HYES := Aside0.mk (hyes hq)
      have hq2 : (((a &&& b : Nat) : Int) == (a : Int)) = true := by
       rw [beq_iff_eq] at hq ⊢
       omega
      generalize a &&& b = ab at hand hq2
      have h5 : wrap64 ((b : Int) * 2 ^ sh) = ((b * 2 ^ 2 ^ n : Nat) : Int) := by
       rw [HSH.out]
       have : ((b : Int) * 2 ^ 2 ^ n) = ((b * 2 ^ 2 ^ n : Nat) : Int) := by simp
       rw [this]
       unfold wrap64
       omega
      have hmin : min sh 64 = sh := by have := HSH.out; omega
      have h6 : wrap64 ((b : Int) * 2 ^ min sh 64) = ((b * 2 ^ 2 ^ n : Nat) : Int) := by rw [hmin]; exact h5
      generalize b * 2 ^ 2 ^ n = bs at h5 h6 hor HYES
      generalize bs ||| a = r at hor HYES
      clear hno hyes hq hmin hbl hp1 hp2
      go_wp2_with ((with_reducible refine gate_builtin (b := .append) (xs := #[.tmp 33, .tmp 41]) rfl ?_); at_builtin; refine Kd.R_append (Kd.int .i64) (w0 := w1) w1.heap.size rfl (.tmp 33) (.tmp 41) 36 3 (.int .i64 0) 8 rfl Tryz.underlying36 infoI rfl (by decide) (by omega) u4 (tabI (tabsUpto n l kk jj)) (r : Int) [.int .i64 (r : Int)] (fun _ => True) (fun _ => False) rfl rfl rfl (fun _ hk => hk.elim) (fun _ _ => trivial) HO.out BW.out BW.out.size (by have := HUL2.out; simp only [tabI, List.length_map]; omega) ?_; intro v1 w3 ho hb hg hat; have HO1 := Aside0.mk ho; have HB1 := Aside0.mk hb; clear ho hb hg hat)
      go_roundg (N - (jj + 1))
      case measure => omega
      case rel => exact ⟨jj + 1, by omega, by omega, by go_num, HB1, ⟨by rw [HYES.out, show tabI (tabsUpto n l kk jj ++ [r]) = tabI (tabsUpto n l kk jj) ++ [(r : Int)] by simp [tabI]]; exact HO1.out⟩⟩
    ·have hltz2 : ¬ (jj : Int) < (N : Int) := by omega
     have : jj = N := by omega
     subst this
     have HNX := Aside0.mk (upto_next n l kk (by have := HN.out; omega))
     rw [← HN.out] at HNX
     go_wp2
     go_roundg (jj - (kk + 1))
     case measure => omega
     case rel => exact ⟨kk + 1, by omega, by omega, by go_num, BW, ⟨by rw [← HNX.out]; exact HO.out⟩⟩
  ·have hltz : ¬ (kk : Int) < (N : Int) := by omega
   have : kk = N := by omega
   subst this
   have HE := Aside0.mk (upto_end n l)
   rw [← HN.out] at HE
   go_wp2
   go_ret
   exact ⟨_, rfl, by rw [← HE.out]; exact Kd.R_lower HO.out HB.out.size, Below.trans HB.out (BW.out.mono HB.out.size)⟩
theorem tables_zero (w : World) :
  Calls Tryz.prog 116 #[.int .i64 0] w fun e w' => ∃ v : Value, e = .returned v ∧ Kd.R (Kd.int .i64) 3 w' w.heap.size (fun _ => True) v (tabI (tabs 0)) ∧ Below w.heap.size w w' := by
 go_enter Tryz.func116, Tryz.ntmps116
 go_wp2
 go_ret
 exact ⟨_, rfl, Kd.R_of_own (xs := [0, 1]) (own_lit_of w w.heap.size 3 [0, 1] (Nat.le_refl _) (by simp)) (fun _ _ => trivial), (Below.refl _ _).alloc (Nat.le_refl _) _⟩
theorem tables_any : ∀ (n : Nat), n ≤ 4 → ∀ w, Calls Tryz.prog 116 #[.int .i64 (n : Int)] w fun e w' => ∃ v : Value, e = .returned v ∧ Kd.R (Kd.int .i64) 3 w' w.heap.size (fun _ => True) v (tabI (tabs n)) ∧ Below w.heap.size w w'
 | 0, _, w => tables_zero w
 | n + 1, h, w => tables_step n (by omega) (tables_any n (by omega)) w
end Go.Proofs.YtnncjnjfdhbddaaGreat.Z
