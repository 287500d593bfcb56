import Derived.Test.YtnncjnjfdhbddaaGreatCFirs1
import Derived.Test.YtnncjnjfdhbddaaGreatCFirs2
import Derived.Shelf.Abstract
import Derived.Deep.RegionHeld3
import Derived.Deep.RegionLaw
import Derived.Lib.SliceRun
import Derived.Deep.DeepMust
namespace Go.Proofs.YtnncjnjfdhbddaaGreat.Z
open Go.RowKit Go.Proofs.YtnncjnjfdhbddaaGreatW.PrintWords Go.Proofs.YtnncjnjfdhbddaaGreatW.PrintLast Go.Proofs.YtnncjnjfdhbddaaGreatW.PrintMore
attribute [local go_sem] max2_int min2_int max_two min_two max_three min_three max_four min_four
set_option linter.unusedVariables false
set_option linter.unusedSimpArgs false
def impl_votes_isLeast.l0 : Nat → Int → Int → Int → Int → List Bool → Option (Bool)
 | 0, _, _, _, _, _ => none
 | k + 1, x1, x13, x14, x569000, x569001 => if x14 < x13 then ((impl_has.f x1 x14).bind fun t570 => (if t570 = true then (if 0 ≤ x14 then (if 0 ≤ (Go.bits .andNot .i64 x1 (shl .i64 1 x14)) then (if (Go.bits .andNot .i64 x1 (shl .i64 1 x14)) < (x569001.length : Int) then (if rdOf false x569001 (Go.bits .andNot .i64 x1 (shl .i64 1 x14)) = true then (some false) else (impl_votes_isLeast.l0 k x1 x13 (wrap64 (x14 + 1)) x569000 x569001)) else (none)) else (none)) else (none)) else (impl_votes_isLeast.l0 k x1 x13 (wrap64 (x14 + 1)) x569000 x569001))) else (some true)
def impl_votes_isLeast.f (k : Nat) (a0_0 : Int) (l0_1 : List Bool) (a1 : Int) : Option (Bool) := if 0 ≤ a1 then (if a1 < (l0_1.length : Int) then (if rdOf false l0_1 a1 = true then (impl_votes_isLeast.l0 k a1 a0_0 0 a0_0 l0_1) else (some false)) else (none)) else (none)
set_option maxHeartbeats 8000000 in
set_option maxRecDepth 100000 in
theorem impl_votes_isLeast.calls (k : Nat) (a0_0 : Int) (A0_1 : Option Addr) (c0_1 : Nat) (l0_1 : List Bool) (a1 : Int) (r : Bool) (w : World) (hr0_1 : Kd.C Kd.bool w A0_1 l0_1.length l0_1) (hc0_1 : l0_1.length ≤ c0_1) (h : impl_votes_isLeast.f k a0_0 l0_1 a1 = some r) :
  Calls Tryz.prog 163 #[.agg #[.int .i64 a0_0, .slice A0_1 l0_1.length c0_1], .int .i64 a1] w fun e w' => e = .returned (.bool r) ∧ Below w.heap.size w w' := by
 have hu68 := Tryz.underlying68
 have HR0_1 := Aside0.mk hr0_1
 have HC0_1 := Aside0.mk hc0_1
 clear hr0_1 hc0_1
 have HB := Aside0.mk (Below.refl w.heap.size w)
 have H : (if 0 ≤ a1 then (if a1 < (l0_1.length : Int) then (if rdOf false l0_1 a1 = true then (impl_votes_isLeast.l0 k a1 a0_0 0 a0_0 l0_1) else (some false)) else (none)) else (none)) = some r := h
 clear h
 by_cases c3 : 0 ≤ a1
 ·rw [if_pos c3] at H
  have c3b0 : decide (0 ≤ a1) = true := decide_eq_true c3
  clear c3
  by_cases c4 : a1 < (l0_1.length : Int)
  ·rw [if_pos c4] at H
   have c4b0 : decide (a1 < (l0_1.length : Int)) = true := decide_eq_true c4
   clear c4
   obtain ⟨bq5, hbq5⟩ : ∃ b_ : Bool, b_ = (rdOf false l0_1 a1) := ⟨_, rfl⟩
   replace H : (if bq5 = true then (impl_votes_isLeast.l0 k a1 a0_0 0 a0_0 l0_1) else (some false)) = some r := by rw [← hbq5] at H; exact H
   have Nbq5 := Aside0.mk hbq5
   clear hbq5
   by_cases c6 : bq5 = true
   ·subst c6
    have H1 : (impl_votes_isLeast.l0 k a1 a0_0 0 a0_0 l0_1) = some r := by rw [if_pos rfl] at H; exact H
    clear H
    have H := H1
    clear H1
    have H' := Aside0.mk H
    clear H
    go_enter Tryz.func163, Tryz.ntmps163
    go_wp2_with (first | ((with_reducible refine gate_dst (N := 2) rfl ?_); refine box_event ?hg (N := 2) ?hd (cs := #[.int .i64 a0_0, .slice A0_1 l0_1.length c0_1]) (t := 68) ?hr ?_; (case hd => rfl); (case hg => rfl); (case hr => first | (go_simp; done) | (go_simp; rfl)); intro gb568 hg w7 hbox hb; have n0_ := Aside0.mk (below_step (by repeat (first | (with_reducible first | exact HB.out | apply below_alloc | apply pw_below_drewN | apply below_drew1) | exact HB.out)) hb); have n1_ := Aside0.mk (hbox); have n2_ := Aside0.mk ((by rw [hg]; exact (below_size (by repeat (first | (with_reducible first | exact HB.out | apply below_alloc | apply pw_below_drewN | apply below_drew1) | exact HB.out))) : w.heap.size ≤ gb568)); have n3_ := Aside0.mk ((by rw [hg]; exact (below_size (by repeat (first | (with_reducible first | exact HB.out | apply below_alloc | apply pw_below_drewN | apply below_drew1) | exact HB.out))) : w.heap.size ≤ gb568)); clear HB; have HB := n0_; have BK568 := n1_; have GW568 := n2_; have GE568 := n3_; clear n0_ n1_ n2_ n3_; clear hb hbox hg; have hcz8_0 : w7.cell? ⟨gb568, 0, none⟩ = some (.int .i64 a0_0) := (blk_cell BK568.out 0).trans rfl; have hcz8_1 : w7.cell? ⟨gb568, 1, none⟩ = some (.slice A0_1 l0_1.length c0_1) := (blk_cell BK568.out 1).trans rfl; have hfz8_0 := blk_frozen BK568.out 0; have hfz8_1 := blk_frozen BK568.out 1; have p569 : 0 ≤ (a1 : Int) := of_decide_eq_true (by first | (with_reducible assumption) | assumption); have q569 : a1 < (l0_1.length : Int) := of_decide_eq_true (by first | (with_reducible assumption) | assumption); obtain ⟨ad569, e569, hx569_0⟩ := Kd.at_bool HR0_1.out a1 p569 q569; (try rw [← Nbq5.out] at hx569_0); cases e569; replace hx569_0 := (HB.out.cell (World.block_lt_of_cell? w _ hx569_0)).trans hx569_0; replace p569 := eq_true p569; replace q569 := eq_true q569))
    repeat (go_quiet (first | ((with_reducible refine gate_dst (N := 2) rfl ?_); refine box_event ?hg (N := 2) ?hd (cs := #[.int .i64 a0_0, .slice A0_1 l0_1.length c0_1]) (t := 68) ?hr ?_; (case hd => rfl); (case hg => rfl); (case hr => first | (go_simp; done) | (go_simp; rfl)); intro gb568 hg w7 hbox hb; have n0_ := Aside0.mk (below_step (by repeat (first | (with_reducible first | exact HB.out | apply below_alloc | apply pw_below_drewN | apply below_drew1) | exact HB.out)) hb); have n1_ := Aside0.mk (hbox); have n2_ := Aside0.mk ((by rw [hg]; exact (below_size (by repeat (first | (with_reducible first | exact HB.out | apply below_alloc | apply pw_below_drewN | apply below_drew1) | exact HB.out))) : w.heap.size ≤ gb568)); have n3_ := Aside0.mk ((by rw [hg]; exact (below_size (by repeat (first | (with_reducible first | exact HB.out | apply below_alloc | apply pw_below_drewN | apply below_drew1) | exact HB.out))) : w.heap.size ≤ gb568)); clear HB; have HB := n0_; have BK568 := n1_; have GW568 := n2_; have GE568 := n3_; clear n0_ n1_ n2_ n3_; clear hb hbox hg; have hcz8_0 : w7.cell? ⟨gb568, 0, none⟩ = some (.int .i64 a0_0) := (blk_cell BK568.out 0).trans rfl; have hcz8_1 : w7.cell? ⟨gb568, 1, none⟩ = some (.slice A0_1 l0_1.length c0_1) := (blk_cell BK568.out 1).trans rfl; have hfz8_0 := blk_frozen BK568.out 0; have hfz8_1 := blk_frozen BK568.out 1; have p569 : 0 ≤ (a1 : Int) := of_decide_eq_true (by first | (with_reducible assumption) | assumption); have q569 : a1 < (l0_1.length : Int) := of_decide_eq_true (by first | (with_reducible assumption) | assumption); obtain ⟨ad569, e569, hx569_0⟩ := Kd.at_bool HR0_1.out a1 p569 q569; (try rw [← Nbq5.out] at hx569_0); cases e569; replace hx569_0 := (HB.out.cell (World.block_lt_of_cell? w _ hx569_0)).trans hx569_0; replace p569 := eq_true p569; replace q569 := eq_true q569)); try go_wp2_with (first | ((with_reducible refine gate_dst (N := 2) rfl ?_); refine box_event ?hg (N := 2) ?hd (cs := #[.int .i64 a0_0, .slice A0_1 l0_1.length c0_1]) (t := 68) ?hr ?_; (case hd => rfl); (case hg => rfl); (case hr => first | (go_simp; done) | (go_simp; rfl)); intro gb568 hg w7 hbox hb; have n0_ := Aside0.mk (below_step (by repeat (first | (with_reducible first | exact HB.out | apply below_alloc | apply pw_below_drewN | apply below_drew1) | exact HB.out)) hb); have n1_ := Aside0.mk (hbox); have n2_ := Aside0.mk ((by rw [hg]; exact (below_size (by repeat (first | (with_reducible first | exact HB.out | apply below_alloc | apply pw_below_drewN | apply below_drew1) | exact HB.out))) : w.heap.size ≤ gb568)); have n3_ := Aside0.mk ((by rw [hg]; exact (below_size (by repeat (first | (with_reducible first | exact HB.out | apply below_alloc | apply pw_below_drewN | apply below_drew1) | exact HB.out))) : w.heap.size ≤ gb568)); clear HB; have HB := n0_; have BK568 := n1_; have GW568 := n2_; have GE568 := n3_; clear n0_ n1_ n2_ n3_; clear hb hbox hg; have hcz8_0 : w7.cell? ⟨gb568, 0, none⟩ = some (.int .i64 a0_0) := (blk_cell BK568.out 0).trans rfl; have hcz8_1 : w7.cell? ⟨gb568, 1, none⟩ = some (.slice A0_1 l0_1.length c0_1) := (blk_cell BK568.out 1).trans rfl; have hfz8_0 := blk_frozen BK568.out 0; have hfz8_1 := blk_frozen BK568.out 1; have p569 : 0 ≤ (a1 : Int) := of_decide_eq_true (by first | (with_reducible assumption) | assumption); have q569 : a1 < (l0_1.length : Int) := of_decide_eq_true (by first | (with_reducible assumption) | assumption); obtain ⟨ad569, e569, hx569_0⟩ := Kd.at_bool HR0_1.out a1 p569 q569; (try rw [← Nbq5.out] at hx569_0); cases e569; replace hx569_0 := (HB.out.cell (World.block_lt_of_cell? w _ hx569_0)).trans hx569_0; replace p569 := eq_true p569; replace q569 := eq_true q569)))
    go_loopg [14] k (fun kq v14 w' => ∃ (x14_1 : Int), v14 = .int .i64 x14_1 ∧ Aside0 (impl_votes_isLeast.l0 kq a1 a0_0 x14_1 a0_0 l0_1 = some r) ∧ Aside0 (kq ≤ k) ∧ Aside0 (w'.heap[gb568]? = some (.cells #[.int .i64 a0_0, (.slice (some ad569) l0_1.length c0_1)] 68 (0, 0))) ∧ Aside0 (Below w.heap.size w w'))
    case atStart => exact ⟨(0), (by first | rfl | (simp; done) | (simp [*]; done)), H', ⟨Nat.le_refl _⟩, ⟨by (with_reducible repeat (first | refine blk_drewN ?_ _ | refine blk_drew ?_ | refine blk_alloc ?_ _)); exact BK568.out⟩, ⟨by repeat (first | (with_reducible first | exact HB.out | apply below_alloc | apply pw_below_drewN | apply below_drew1 | refine below_set ?_ GE568.out) | exact HB.out)⟩⟩
    case round =>
     clear H'
     try clear c1
     try clear p2
     try clear c3
     try clear c3b0
     try clear c4
     try clear c4b0
     try clear p5
     try clear q5
     try clear hx5
     try clear c6
     try clear hcz8_0
     try clear hcz8_1
     try clear hfz8_0
     try clear hfz8_1
     try clear hx569_0
     try clear p569
     try clear q569
     obtain ⟨x14_1, rfl, HA, HK1, BK568, HB⟩ := hrel
     cases gk with
     | zero => exact absurd HA.out (by simp [impl_votes_isLeast.l0])
     | succ k1 =>
      have H := HA.out
      clear HA
      simp only [impl_votes_isLeast.l0] at H
      by_cases c9 : x14_1 < a0_0
      ·rw [if_pos c9] at H
       have c9b0 : decide (x14_1 < a0_0) = true := decide_eq_true c9
       clear c9
       replace H := Option.bind_eq_some_iff.mp H
       obtain ⟨t570, A100, H⟩ := H
       replace H : (if t570 = true then (if 0 ≤ x14_1 then (if 0 ≤ (Go.bits .andNot .i64 a1 (shl .i64 1 x14_1)) then (if (Go.bits .andNot .i64 a1 (shl .i64 1 x14_1)) < (l0_1.length : Int) then (if rdOf false l0_1 (Go.bits .andNot .i64 a1 (shl .i64 1 x14_1)) = true then (some false) else (impl_votes_isLeast.l0 k1 a1 a0_0 (wrap64 (x14_1 + 1)) a0_0 l0_1)) else (none)) else (none)) else (none)) else (impl_votes_isLeast.l0 k1 a1 a0_0 (wrap64 (x14_1 + 1)) a0_0 l0_1)) = some r := H
       have A10 := Aside0.mk A100
       clear A100
       by_cases c11 : t570 = true
       ·subst c11
        have H1 : (if 0 ≤ x14_1 then (if 0 ≤ (Go.bits .andNot .i64 a1 (shl .i64 1 x14_1)) then (if (Go.bits .andNot .i64 a1 (shl .i64 1 x14_1)) < (l0_1.length : Int) then (if rdOf false l0_1 (Go.bits .andNot .i64 a1 (shl .i64 1 x14_1)) = true then (some false) else (impl_votes_isLeast.l0 k1 a1 a0_0 (wrap64 (x14_1 + 1)) a0_0 l0_1)) else (none)) else (none)) else (none)) = some r := by rw [if_pos rfl] at H; exact H
        clear H
        have H := H1
        clear H1
        by_cases c12 : 0 ≤ x14_1
        ·rw [if_pos c12] at H
         have c12b0 := eq_true c12
         have c12b1 : decide (0 ≤ x14_1) = true := decide_eq_true c12
         clear c12
         obtain ⟨ji13, hji13⟩ : ∃ j_ : Int, (shl .i64 1 x14_1) = j_ := ⟨_, rfl⟩
         replace H : (if 0 ≤ (Go.bits .andNot .i64 a1 (ji13)) then (if (Go.bits .andNot .i64 a1 (ji13)) < (l0_1.length : Int) then (if rdOf false l0_1 (Go.bits .andNot .i64 a1 (ji13)) = true then (some false) else (impl_votes_isLeast.l0 k1 a1 a0_0 (wrap64 (x14_1 + 1)) a0_0 l0_1)) else (none)) else (none)) = some r := by first | (rw [hji13] at H; exact H) | (simp only [hji13] at H ⊢; exact H)
         (try rw [hji13] at A10)
         have hji13_ : (IntKind.i64.wrap (1 * 2 ^ min x14_1.toNat 64)) = ji13 := hji13
         have hji13z : x14_1 ≤ 64 → (IntKind.i64.wrap (1 * 2 ^ x14_1.toNat)) = ji13 := shl_small hji13
         have hji13u : (IntKind.i64.wrap (2 ^ min x14_1.toNat 64)) = ji13 := by have h_ := hji13_; rw [Int.one_mul] at h_; exact h_
         have hji13v : x14_1 ≤ 64 → (IntKind.i64.wrap (2 ^ x14_1.toNat)) = ji13 := fun hle_ => by have h_ := hji13z hle_; rw [Int.one_mul] at h_; exact h_
         have hji13y : (wrap64 (1 * 2 ^ min x14_1.toNat 64)) = ji13 := (i64_w _).symm.trans hji13_
         have hji13x : x14_1 ≤ 64 → (wrap64 (1 * 2 ^ x14_1.toNat)) = ji13 := fun h_ => (i64_w _).symm.trans (hji13z h_)
         by_cases c14 : 0 ≤ (Go.bits .andNot .i64 a1 (ji13))
         ·rw [if_pos c14] at H
          have c14b0 : decide (0 ≤ (Go.bits .andNot .i64 a1 (ji13))) = true := decide_eq_true c14
          clear c14
          by_cases c15 : (Go.bits .andNot .i64 a1 (ji13)) < (l0_1.length : Int)
          ·rw [if_pos c15] at H
           have c15b0 : decide ((Go.bits .andNot .i64 a1 (ji13)) < (l0_1.length : Int)) = true := decide_eq_true c15
           clear c15
           obtain ⟨bq16, hbq16⟩ : ∃ b_ : Bool, b_ = (rdOf false l0_1 (Go.bits .andNot .i64 a1 (ji13))) := ⟨_, rfl⟩
           replace H : (if bq16 = true then (some false) else (impl_votes_isLeast.l0 k1 a1 a0_0 (wrap64 (x14_1 + 1)) a0_0 l0_1)) = some r := by rw [← hbq16] at H; exact H
           have Nbq16 := Aside0.mk hbq16
           clear hbq16
           by_cases c17 : bq16 = true
           ·subst c17
            have H1 : (some false) = some r := by rw [if_pos rfl] at H; exact H
            clear H
            have H := H1
            clear H1
            obtain rfl := Option.some.inj H
            go_wp2_with (first | (go_at_call 118; (with_reducible refine (impl_has.calls a1 x14_1 true _ A10.out).mono ?_); rintro e w' ⟨rfl, ⟨nd, rfl⟩⟩; (try first | exact ⟨rfl, _, World.drewN_drewN _ _ _⟩ | exact ⟨rfl, _, Eq.trans (World.drewN_drewN _ _ _) (congrArg (World.drewN _) (Nat.add_assoc _ _ _))⟩); have hcz18_0 : wr.cell? ⟨gb568, 0, none⟩ = some (.int .i64 a0_0) := (blk_cell BK568.out 0).trans rfl; have hcz18_1 : wr.cell? ⟨gb568, 1, none⟩ = some (.slice (some ad569) l0_1.length c0_1) := (blk_cell BK568.out 1).trans rfl; have hfz18_0 := blk_frozen BK568.out 0; have hfz18_1 := blk_frozen BK568.out 1; have p571 : 0 ≤ ((Go.bits .andNot .i64 a1 (ji13)) : Int) := of_decide_eq_true (by first | (with_reducible assumption) | assumption); have q571 : (Go.bits .andNot .i64 a1 (ji13)) < (l0_1.length : Int) := of_decide_eq_true (by first | (with_reducible assumption) | assumption); obtain ⟨ad571, e571, hx571_0⟩ := Kd.at_bool HR0_1.out (Go.bits .andNot .i64 a1 (ji13)) p571 q571; (try rw [← Nbq5.out] at hx571_0); (try rw [← Nbq16.out] at hx571_0); obtain rfl : ad569 = ad571 := (by injection e571); replace hx571_0 := (HB.out.cell (World.block_lt_of_cell? w _ hx571_0)).trans hx571_0; replace p571 := eq_true p571; replace q571 := eq_true q571))
            repeat (go_quiet (first | (go_at_call 118; (with_reducible refine (impl_has.calls a1 x14_1 true _ A10.out).mono ?_); rintro e w' ⟨rfl, ⟨nd, rfl⟩⟩; (try first | exact ⟨rfl, _, World.drewN_drewN _ _ _⟩ | exact ⟨rfl, _, Eq.trans (World.drewN_drewN _ _ _) (congrArg (World.drewN _) (Nat.add_assoc _ _ _))⟩); have hcz18_0 : wr.cell? ⟨gb568, 0, none⟩ = some (.int .i64 a0_0) := (blk_cell BK568.out 0).trans rfl; have hcz18_1 : wr.cell? ⟨gb568, 1, none⟩ = some (.slice (some ad569) l0_1.length c0_1) := (blk_cell BK568.out 1).trans rfl; have hfz18_0 := blk_frozen BK568.out 0; have hfz18_1 := blk_frozen BK568.out 1; have p571 : 0 ≤ ((Go.bits .andNot .i64 a1 (ji13)) : Int) := of_decide_eq_true (by first | (with_reducible assumption) | assumption); have q571 : (Go.bits .andNot .i64 a1 (ji13)) < (l0_1.length : Int) := of_decide_eq_true (by first | (with_reducible assumption) | assumption); obtain ⟨ad571, e571, hx571_0⟩ := Kd.at_bool HR0_1.out (Go.bits .andNot .i64 a1 (ji13)) p571 q571; (try rw [← Nbq5.out] at hx571_0); (try rw [← Nbq16.out] at hx571_0); obtain rfl : ad569 = ad571 := (by injection e571); replace hx571_0 := (HB.out.cell (World.block_lt_of_cell? w _ hx571_0)).trans hx571_0; replace p571 := eq_true p571; replace q571 := eq_true q571)); try go_wp2_with (first | (go_at_call 118; (with_reducible refine (impl_has.calls a1 x14_1 true _ A10.out).mono ?_); rintro e w' ⟨rfl, ⟨nd, rfl⟩⟩; (try first | exact ⟨rfl, _, World.drewN_drewN _ _ _⟩ | exact ⟨rfl, _, Eq.trans (World.drewN_drewN _ _ _) (congrArg (World.drewN _) (Nat.add_assoc _ _ _))⟩); have hcz18_0 : wr.cell? ⟨gb568, 0, none⟩ = some (.int .i64 a0_0) := (blk_cell BK568.out 0).trans rfl; have hcz18_1 : wr.cell? ⟨gb568, 1, none⟩ = some (.slice (some ad569) l0_1.length c0_1) := (blk_cell BK568.out 1).trans rfl; have hfz18_0 := blk_frozen BK568.out 0; have hfz18_1 := blk_frozen BK568.out 1; have p571 : 0 ≤ ((Go.bits .andNot .i64 a1 (ji13)) : Int) := of_decide_eq_true (by first | (with_reducible assumption) | assumption); have q571 : (Go.bits .andNot .i64 a1 (ji13)) < (l0_1.length : Int) := of_decide_eq_true (by first | (with_reducible assumption) | assumption); obtain ⟨ad571, e571, hx571_0⟩ := Kd.at_bool HR0_1.out (Go.bits .andNot .i64 a1 (ji13)) p571 q571; (try rw [← Nbq5.out] at hx571_0); (try rw [← Nbq16.out] at hx571_0); obtain rfl : ad569 = ad571 := (by injection e571); replace hx571_0 := (HB.out.cell (World.block_lt_of_cell? w _ hx571_0)).trans hx571_0; replace p571 := eq_true p571; replace q571 := eq_true q571)))
            go_ret
            exact ⟨by first | rfl | (simp [errW_none, errW_some] <;> rfl) | (simp only [← hji13]; first | rfl | (simp [errW_none, errW_some] <;> rfl)) | (simp [*, errW_none, errW_some] <;> rfl), by repeat (first | (with_reducible first | exact HB.out | apply below_alloc | apply pw_below_drewN | apply below_drew1 | refine below_set ?_ GE568.out) | exact HB.out)⟩
           ·replace c17 := Bool.eq_false_iff.mpr c17
            subst c17
            have H1 : (impl_votes_isLeast.l0 k1 a1 a0_0 (wrap64 (x14_1 + 1)) a0_0 l0_1) = some r := by rw [if_neg (show ¬ (false = true) by decide)] at H; exact H
            clear H
            have H := H1
            clear H1
            have H' := Aside0.mk H
            clear H
            go_wp2_with (first | (go_at_call 118; (with_reducible refine (impl_has.calls a1 x14_1 true _ A10.out).mono ?_); rintro e w' ⟨rfl, ⟨nd, rfl⟩⟩; (try first | exact ⟨rfl, _, World.drewN_drewN _ _ _⟩ | exact ⟨rfl, _, Eq.trans (World.drewN_drewN _ _ _) (congrArg (World.drewN _) (Nat.add_assoc _ _ _))⟩); have hcz19_0 : wr.cell? ⟨gb568, 0, none⟩ = some (.int .i64 a0_0) := (blk_cell BK568.out 0).trans rfl; have hcz19_1 : wr.cell? ⟨gb568, 1, none⟩ = some (.slice (some ad569) l0_1.length c0_1) := (blk_cell BK568.out 1).trans rfl; have hfz19_0 := blk_frozen BK568.out 0; have hfz19_1 := blk_frozen BK568.out 1; have p571 : 0 ≤ ((Go.bits .andNot .i64 a1 (ji13)) : Int) := of_decide_eq_true (by first | (with_reducible assumption) | assumption); have q571 : (Go.bits .andNot .i64 a1 (ji13)) < (l0_1.length : Int) := of_decide_eq_true (by first | (with_reducible assumption) | assumption); obtain ⟨ad571, e571, hx571_0⟩ := Kd.at_bool HR0_1.out (Go.bits .andNot .i64 a1 (ji13)) p571 q571; (try rw [← Nbq5.out] at hx571_0); (try rw [← Nbq16.out] at hx571_0); obtain rfl : ad569 = ad571 := (by injection e571); replace hx571_0 := (HB.out.cell (World.block_lt_of_cell? w _ hx571_0)).trans hx571_0; replace p571 := eq_true p571; replace q571 := eq_true q571))
            repeat (go_quiet (first | (go_at_call 118; (with_reducible refine (impl_has.calls a1 x14_1 true _ A10.out).mono ?_); rintro e w' ⟨rfl, ⟨nd, rfl⟩⟩; (try first | exact ⟨rfl, _, World.drewN_drewN _ _ _⟩ | exact ⟨rfl, _, Eq.trans (World.drewN_drewN _ _ _) (congrArg (World.drewN _) (Nat.add_assoc _ _ _))⟩); have hcz19_0 : wr.cell? ⟨gb568, 0, none⟩ = some (.int .i64 a0_0) := (blk_cell BK568.out 0).trans rfl; have hcz19_1 : wr.cell? ⟨gb568, 1, none⟩ = some (.slice (some ad569) l0_1.length c0_1) := (blk_cell BK568.out 1).trans rfl; have hfz19_0 := blk_frozen BK568.out 0; have hfz19_1 := blk_frozen BK568.out 1; have p571 : 0 ≤ ((Go.bits .andNot .i64 a1 (ji13)) : Int) := of_decide_eq_true (by first | (with_reducible assumption) | assumption); have q571 : (Go.bits .andNot .i64 a1 (ji13)) < (l0_1.length : Int) := of_decide_eq_true (by first | (with_reducible assumption) | assumption); obtain ⟨ad571, e571, hx571_0⟩ := Kd.at_bool HR0_1.out (Go.bits .andNot .i64 a1 (ji13)) p571 q571; (try rw [← Nbq5.out] at hx571_0); (try rw [← Nbq16.out] at hx571_0); obtain rfl : ad569 = ad571 := (by injection e571); replace hx571_0 := (HB.out.cell (World.block_lt_of_cell? w _ hx571_0)).trans hx571_0; replace p571 := eq_true p571; replace q571 := eq_true q571)); try go_wp2_with (first | (go_at_call 118; (with_reducible refine (impl_has.calls a1 x14_1 true _ A10.out).mono ?_); rintro e w' ⟨rfl, ⟨nd, rfl⟩⟩; (try first | exact ⟨rfl, _, World.drewN_drewN _ _ _⟩ | exact ⟨rfl, _, Eq.trans (World.drewN_drewN _ _ _) (congrArg (World.drewN _) (Nat.add_assoc _ _ _))⟩); have hcz19_0 : wr.cell? ⟨gb568, 0, none⟩ = some (.int .i64 a0_0) := (blk_cell BK568.out 0).trans rfl; have hcz19_1 : wr.cell? ⟨gb568, 1, none⟩ = some (.slice (some ad569) l0_1.length c0_1) := (blk_cell BK568.out 1).trans rfl; have hfz19_0 := blk_frozen BK568.out 0; have hfz19_1 := blk_frozen BK568.out 1; have p571 : 0 ≤ ((Go.bits .andNot .i64 a1 (ji13)) : Int) := of_decide_eq_true (by first | (with_reducible assumption) | assumption); have q571 : (Go.bits .andNot .i64 a1 (ji13)) < (l0_1.length : Int) := of_decide_eq_true (by first | (with_reducible assumption) | assumption); obtain ⟨ad571, e571, hx571_0⟩ := Kd.at_bool HR0_1.out (Go.bits .andNot .i64 a1 (ji13)) p571 q571; (try rw [← Nbq5.out] at hx571_0); (try rw [← Nbq16.out] at hx571_0); obtain rfl : ad569 = ad571 := (by injection e571); replace hx571_0 := (HB.out.cell (World.block_lt_of_cell? w _ hx571_0)).trans hx571_0; replace p571 := eq_true p571; replace q571 := eq_true q571)))
            go_roundg k1
            case measure => have := HK1.out; omega
            case rel => exact ⟨(wrap64 (x14_1 + 1)), (by first | rfl | (simp; done) | (simp [*]; done)), H', ⟨by have := HK1.out; omega⟩, ⟨by (with_reducible repeat (first | refine blk_drewN ?_ _ | refine blk_drew ?_ | refine blk_alloc ?_ _)); exact BK568.out⟩, ⟨by repeat (first | (with_reducible first | exact HB.out | apply below_alloc | apply pw_below_drewN | apply below_drew1 | refine below_set ?_ GE568.out) | exact HB.out)⟩⟩
          ·rw [if_neg c15] at H
           exact absurd H (by simp)
         ·rw [if_neg c14] at H
          exact absurd H (by simp)
        ·rw [if_neg c12] at H
         exact absurd H (by simp)
       ·replace c11 := Bool.eq_false_iff.mpr c11
        subst c11
        have H1 : (impl_votes_isLeast.l0 k1 a1 a0_0 (wrap64 (x14_1 + 1)) a0_0 l0_1) = some r := by rw [if_neg (show ¬ (false = true) by decide)] at H; exact H
        clear H
        have H := H1
        clear H1
        have H' := Aside0.mk H
        clear H
        go_wp2_with (first | (go_at_call 118; (with_reducible refine (impl_has.calls a1 x14_1 false _ A10.out).mono ?_); rintro e w' ⟨rfl, ⟨nd, rfl⟩⟩; (try first | exact ⟨rfl, _, World.drewN_drewN _ _ _⟩ | exact ⟨rfl, _, Eq.trans (World.drewN_drewN _ _ _) (congrArg (World.drewN _) (Nat.add_assoc _ _ _))⟩)))
        repeat (go_quiet (first | (go_at_call 118; (with_reducible refine (impl_has.calls a1 x14_1 false _ A10.out).mono ?_); rintro e w' ⟨rfl, ⟨nd, rfl⟩⟩; (try first | exact ⟨rfl, _, World.drewN_drewN _ _ _⟩ | exact ⟨rfl, _, Eq.trans (World.drewN_drewN _ _ _) (congrArg (World.drewN _) (Nat.add_assoc _ _ _))⟩))); try go_wp2_with (first | (go_at_call 118; (with_reducible refine (impl_has.calls a1 x14_1 false _ A10.out).mono ?_); rintro e w' ⟨rfl, ⟨nd, rfl⟩⟩; (try first | exact ⟨rfl, _, World.drewN_drewN _ _ _⟩ | exact ⟨rfl, _, Eq.trans (World.drewN_drewN _ _ _) (congrArg (World.drewN _) (Nat.add_assoc _ _ _))⟩))))
        go_roundg k1
        case measure => have := HK1.out; omega
        case rel => exact ⟨(wrap64 (x14_1 + 1)), (by first | rfl | (simp; done) | (simp [*]; done)), H', ⟨by have := HK1.out; omega⟩, ⟨by (with_reducible repeat (first | refine blk_drewN ?_ _ | refine blk_drew ?_ | refine blk_alloc ?_ _)); exact BK568.out⟩, ⟨by repeat (first | (with_reducible first | exact HB.out | apply below_alloc | apply pw_below_drewN | apply below_drew1 | refine below_set ?_ GE568.out) | exact HB.out)⟩⟩
      ·rw [if_neg c9] at H
       have c9b0 : decide (x14_1 < a0_0) = false := decide_eq_false c9
       clear c9
       obtain rfl := Option.some.inj H
       go_wp2
       repeat (go_quiet (fail); try go_wp2)
       go_ret
       exact ⟨by first | rfl | (simp [errW_none, errW_some] <;> rfl) | (simp [*, errW_none, errW_some] <;> rfl), by repeat (first | (with_reducible first | exact HB.out | apply below_alloc | apply pw_below_drewN | apply below_drew1 | refine below_set ?_ GE568.out) | exact HB.out)⟩
   ·replace c6 := Bool.eq_false_iff.mpr c6
    subst c6
    have H1 : (some false) = some r := by rw [if_neg (show ¬ (false = true) by decide)] at H; exact H
    clear H
    have H := H1
    clear H1
    obtain rfl := Option.some.inj H
    go_enter Tryz.func163, Tryz.ntmps163
    go_wp2_with (first | ((with_reducible refine gate_dst (N := 2) rfl ?_); refine box_event ?hg (N := 2) ?hd (cs := #[.int .i64 a0_0, .slice A0_1 l0_1.length c0_1]) (t := 68) ?hr ?_; (case hd => rfl); (case hg => rfl); (case hr => first | (go_simp; done) | (go_simp; rfl)); intro gb568 hg w20 hbox hb; have n0_ := Aside0.mk (below_step (by repeat (first | (with_reducible first | exact HB.out | apply below_alloc | apply pw_below_drewN | apply below_drew1) | exact HB.out)) hb); have n1_ := Aside0.mk (hbox); have n2_ := Aside0.mk ((by rw [hg]; exact (below_size (by repeat (first | (with_reducible first | exact HB.out | apply below_alloc | apply pw_below_drewN | apply below_drew1) | exact HB.out))) : w.heap.size ≤ gb568)); have n3_ := Aside0.mk ((by rw [hg]; exact (below_size (by repeat (first | (with_reducible first | exact HB.out | apply below_alloc | apply pw_below_drewN | apply below_drew1) | exact HB.out))) : w.heap.size ≤ gb568)); clear HB; have HB := n0_; have BK568 := n1_; have GW568 := n2_; have GE568 := n3_; clear n0_ n1_ n2_ n3_; clear hb hbox hg; have hcz21_0 : w20.cell? ⟨gb568, 0, none⟩ = some (.int .i64 a0_0) := (blk_cell BK568.out 0).trans rfl; have hcz21_1 : w20.cell? ⟨gb568, 1, none⟩ = some (.slice A0_1 l0_1.length c0_1) := (blk_cell BK568.out 1).trans rfl; have hfz21_0 := blk_frozen BK568.out 0; have hfz21_1 := blk_frozen BK568.out 1; have p569 : 0 ≤ (a1 : Int) := of_decide_eq_true (by first | (with_reducible assumption) | assumption); have q569 : a1 < (l0_1.length : Int) := of_decide_eq_true (by first | (with_reducible assumption) | assumption); obtain ⟨ad569, e569, hx569_0⟩ := Kd.at_bool HR0_1.out a1 p569 q569; (try rw [← Nbq5.out] at hx569_0); cases e569; replace hx569_0 := (HB.out.cell (World.block_lt_of_cell? w _ hx569_0)).trans hx569_0; replace p569 := eq_true p569; replace q569 := eq_true q569))
    repeat (go_quiet (first | ((with_reducible refine gate_dst (N := 2) rfl ?_); refine box_event ?hg (N := 2) ?hd (cs := #[.int .i64 a0_0, .slice A0_1 l0_1.length c0_1]) (t := 68) ?hr ?_; (case hd => rfl); (case hg => rfl); (case hr => first | (go_simp; done) | (go_simp; rfl)); intro gb568 hg w20 hbox hb; have n0_ := Aside0.mk (below_step (by repeat (first | (with_reducible first | exact HB.out | apply below_alloc | apply pw_below_drewN | apply below_drew1) | exact HB.out)) hb); have n1_ := Aside0.mk (hbox); have n2_ := Aside0.mk ((by rw [hg]; exact (below_size (by repeat (first | (with_reducible first | exact HB.out | apply below_alloc | apply pw_below_drewN | apply below_drew1) | exact HB.out))) : w.heap.size ≤ gb568)); have n3_ := Aside0.mk ((by rw [hg]; exact (below_size (by repeat (first | (with_reducible first | exact HB.out | apply below_alloc | apply pw_below_drewN | apply below_drew1) | exact HB.out))) : w.heap.size ≤ gb568)); clear HB; have HB := n0_; have BK568 := n1_; have GW568 := n2_; have GE568 := n3_; clear n0_ n1_ n2_ n3_; clear hb hbox hg; have hcz21_0 : w20.cell? ⟨gb568, 0, none⟩ = some (.int .i64 a0_0) := (blk_cell BK568.out 0).trans rfl; have hcz21_1 : w20.cell? ⟨gb568, 1, none⟩ = some (.slice A0_1 l0_1.length c0_1) := (blk_cell BK568.out 1).trans rfl; have hfz21_0 := blk_frozen BK568.out 0; have hfz21_1 := blk_frozen BK568.out 1; have p569 : 0 ≤ (a1 : Int) := of_decide_eq_true (by first | (with_reducible assumption) | assumption); have q569 : a1 < (l0_1.length : Int) := of_decide_eq_true (by first | (with_reducible assumption) | assumption); obtain ⟨ad569, e569, hx569_0⟩ := Kd.at_bool HR0_1.out a1 p569 q569; (try rw [← Nbq5.out] at hx569_0); cases e569; replace hx569_0 := (HB.out.cell (World.block_lt_of_cell? w _ hx569_0)).trans hx569_0; replace p569 := eq_true p569; replace q569 := eq_true q569)); try go_wp2_with (first | ((with_reducible refine gate_dst (N := 2) rfl ?_); refine box_event ?hg (N := 2) ?hd (cs := #[.int .i64 a0_0, .slice A0_1 l0_1.length c0_1]) (t := 68) ?hr ?_; (case hd => rfl); (case hg => rfl); (case hr => first | (go_simp; done) | (go_simp; rfl)); intro gb568 hg w20 hbox hb; have n0_ := Aside0.mk (below_step (by repeat (first | (with_reducible first | exact HB.out | apply below_alloc | apply pw_below_drewN | apply below_drew1) | exact HB.out)) hb); have n1_ := Aside0.mk (hbox); have n2_ := Aside0.mk ((by rw [hg]; exact (below_size (by repeat (first | (with_reducible first | exact HB.out | apply below_alloc | apply pw_below_drewN | apply below_drew1) | exact HB.out))) : w.heap.size ≤ gb568)); have n3_ := Aside0.mk ((by rw [hg]; exact (below_size (by repeat (first | (with_reducible first | exact HB.out | apply below_alloc | apply pw_below_drewN | apply below_drew1) | exact HB.out))) : w.heap.size ≤ gb568)); clear HB; have HB := n0_; have BK568 := n1_; have GW568 := n2_; have GE568 := n3_; clear n0_ n1_ n2_ n3_; clear hb hbox hg; have hcz21_0 : w20.cell? ⟨gb568, 0, none⟩ = some (.int .i64 a0_0) := (blk_cell BK568.out 0).trans rfl; have hcz21_1 : w20.cell? ⟨gb568, 1, none⟩ = some (.slice A0_1 l0_1.length c0_1) := (blk_cell BK568.out 1).trans rfl; have hfz21_0 := blk_frozen BK568.out 0; have hfz21_1 := blk_frozen BK568.out 1; have p569 : 0 ≤ (a1 : Int) := of_decide_eq_true (by first | (with_reducible assumption) | assumption); have q569 : a1 < (l0_1.length : Int) := of_decide_eq_true (by first | (with_reducible assumption) | assumption); obtain ⟨ad569, e569, hx569_0⟩ := Kd.at_bool HR0_1.out a1 p569 q569; (try rw [← Nbq5.out] at hx569_0); cases e569; replace hx569_0 := (HB.out.cell (World.block_lt_of_cell? w _ hx569_0)).trans hx569_0; replace p569 := eq_true p569; replace q569 := eq_true q569)))
    go_ret
    exact ⟨by first | rfl | (simp [errW_none, errW_some] <;> rfl) | (simp [*, errW_none, errW_some] <;> rfl), by repeat (first | (with_reducible first | exact HB.out | apply below_alloc | apply pw_below_drewN | apply below_drew1 | refine below_set ?_ GE568.out) | exact HB.out)⟩
  ·rw [if_neg c4] at H
   exact absurd H (by simp)
 ·rw [if_neg c3] at H
  exact absurd H (by simp)
end Go.Proofs.YtnncjnjfdhbddaaGreat.Z
namespace Go.Proofs.YtnncjnjfdhbddaaGreat.Z
open Go.RowKit Go.Proofs.YtnncjnjfdhbddaaGreatW.PrintWords Go.Proofs.YtnncjnjfdhbddaaGreatW.PrintLast Go.Proofs.YtnncjnjfdhbddaaGreatW.PrintMore
attribute [local go_sem] max2_int min2_int max_two min_two max_three min_three max_four min_four
set_option linter.unusedVariables false
set_option linter.unusedSimpArgs false
def leastB (n : Nat) (wins : List Bool) (m : Nat) : Bool := wins.getD m false && (List.range n).all fun i => !(m.testBit i && wins.getD (m - 2 ^ i) false)
def leastFrom (n : Nat) (wins : List Bool) (m i : Nat) : Bool := ((List.range n).drop i).all fun i => !(m.testBit i && wins.getD (m - 2 ^ i) false)
theorem leastFrom_step (n : Nat) (wins : List Bool) (m i : Nat) (h : i < n) : leastFrom n wins m i = (!(m.testBit i && wins.getD (m - 2 ^ i) false) && leastFrom n wins m (i + 1)) := by
 unfold leastFrom
 rw [List.drop_eq_getElem_cons (by simpa using h)]
 simp
theorem leastFrom_end (n : Nat) (wins : List Bool) (m : Nat) : leastFrom n wins m n = true := by
 rw [leastFrom, List.drop_of_length_le (by simp)]
 rfl
theorem isLeast_l0 (n : Nat) (hn : n ≤ 9) (a0 : Int) (wins : List Bool) (hw : wins.length = 2 ^ n) (m : Nat) (hm : m < 2 ^ n) : ∀ (d k i : Nat), n - i = d → i ≤ n → d < k →
  impl_votes_isLeast.l0 k (m : Int) (n : Int) (i : Int) a0 wins = some (leastFrom n wins m i) := by
 have h512 := pow_le9 hn
 intro d
 induction d with
 | zero =>
  intro k i hd hi hk
  obtain ⟨k, rfl⟩ : ∃ m, k = m + 1 := ⟨k - 1, by omega⟩
  obtain rfl : i = n := by omega
  simp only [impl_votes_isLeast.l0]
  rw [if_neg (by omega), leastFrom_end]
 | succ d ih =>
  intro k i hd hi hk
  obtain ⟨k, rfl⟩ : ∃ m, k = m + 1 := ⟨k - 1, by omega⟩
  have hlt : i < n := by omega
  simp only [impl_votes_isLeast.l0]
  have ih1 := ih k (i + 1) (by omega) (by omega) (by omega)
  have e1 : wrap64 ((i : Int) + 1) = ((i + 1 : Nat) : Int) := by unfold wrap64; omega
  rw [if_pos (by omega), has_eq m i (by omega) (by omega), leastFrom_step n wins m i hlt, e1, ih1]
  simp only [Option.bind_some]
  cases hb : m.testBit i with
  | false => simp
  | true =>
   have hle : m - 2 ^ i ≤ m := Nat.sub_le _ _
   generalize hx : m - 2 ^ i = x at hle
   have hce := clear_eq m i (by omega) (by omega) hb
   rw [hx] at hce
   rw [if_pos rfl, if_pos (by omega), hce, if_pos (by omega), if_pos (by omega)]
   have e2 : rdOf false wins (x : Int) = wins.getD x false := by simp [rdOf]
   rw [e2]
   cases wins.getD x false <;> simp
theorem isLeast_f (n : Nat) (hn : n ≤ 9) (wins : List Bool) (hw : wins.length = 2 ^ n) (m : Nat) (hm : m < 2 ^ n) : impl_votes_isLeast.f (n + 1) (n : Int) wins (m : Int) = some (leastB n wins m) := by
 unfold impl_votes_isLeast.f leastB
 rw [if_pos (by omega), if_pos (by omega)]
 have e2 : rdOf false wins (m : Int) = wins.getD m false := by simp [rdOf]
 rw [e2]
 cases wins.getD m false with
 | false => simp
 | true =>
  rw [if_pos rfl]
  have := isLeast_l0 n hn (n : Int) wins hw m hm n (n + 1) 0 (by omega) (by omega) (by omega)
  simp only [Bool.true_and]
  exact this
end Go.Proofs.YtnncjnjfdhbddaaGreat.Z
namespace Go.Proofs.YtnncjnjfdhbddaaGreat.Z
open Go.RowKit Go.Proofs.YtnncjnjfdhbddaaGreatW.PrintWords Go.Proofs.YtnncjnjfdhbddaaGreatW.PrintLast Go.Proofs.YtnncjnjfdhbddaaGreatW.PrintMore
attribute [local go_sem] max2_int min2_int max_two min_two max_three min_three max_four min_four
set_option linter.unusedVariables false
set_option linter.unusedSimpArgs false
def leastSets (n : Nat) (wins : List Bool) : List (List Int) := sortC cmpL (partS (leastB n wins) wins.length)
def vOk (a0 : Int) (wins : List Bool) : Bool := decide (0 ≤ a0 ∧ a0 ≤ 9 ∧ wins.length = 2 ^ a0.toNat)
set_option maxHeartbeats 1000000 in
theorem least_any (n : Nat) (hn : n ≤ 9) (A : Option Addr) (c : Nat) (wins : List Bool) (hw : wins.length = 2 ^ n) (w : World) (hr : Kd.C Kd.bool w A wins.length wins) (hc : wins.length ≤ c) :
  Calls Tryz.prog 146 #[.agg #[.int .i64 (n : Int), .slice A wins.length c]] w fun e w' => ∃ v : Value, e = .returned v ∧ Kd.S (Kd.slice 3 (Kd.int .i64)) 36 w' w.heap.size (fun _ => True) v (leastSets n wins) ∧ Below w.heap.size w w' := by
 have hu68 := Tryz.underlying68
 have eg : ∀ args w, (callFunc 163 args).run Tryz.prog w = .ok (.enter 163 args) w := enters_of Tryz.func163 (by kernel_rfl) rfl
 have h512 := pow_le9 hn
 have hS := fun (W : World) (hb : Below w.heap.size w W) => sets_any (sortC cmpL) sortsSets_ok (n : Int) A c wins (by omega) (leastB n wins) 163 #[.agg #[.int .i64 (n : Int), .slice A wins.length c]] #[] W eg
  (fun W' m hm hb' => impl_votes_isLeast.calls (n + 1) (n : Int) A c wins (m : Int) _ W' (Kd.C_below (Kd.C_below hr hb) hb') hc (isLeast_f n hn wins hw m (by omega)))
 change ∀ W (hb : Below w.heap.size w W), Calls Tryz.prog 98 _ W fun e w' => ∃ v : Value, e = .returned v ∧ Kd.S (Kd.slice 3 (Kd.int .i64)) 36 w' W.heap.size (fun _ => True) v (leastSets n wins) ∧ Below W.heap.size W w' at hS
 have HS := Aside0.mk hS
 clear hS hr hc eg
 generalize leastSets n wins = ls at HS ⊢
 clear hw
 generalize wins.length = N at *
 go_enter Tryz.func146, Tryz.ntmps146
 go_wp2_with (go_at_call 98; refine (HS.out _ ((Below.refl _ _).alloc (Nat.le_refl _) _)).mono ?_; rintro e w1 ⟨v1, rfl, ho, hb⟩; have HO1 := Aside0.mk ho; have HB1 := Aside0.mk hb; clear ho hb)
 go_ret
 exact ⟨_, rfl, Kd.S_lower HO1.out (by simp), Below.trans ((Below.refl _ _).alloc (Nat.le_refl _) _) (HB1.out.mono (by simp))⟩
def impl_votes_least.f (a0_0 : Int) (l0_1 : List Bool) : Option ((List (List Int))) := if vOk a0_0 l0_1 = true then some (leastSets a0_0.toNat l0_1) else none
theorem impl_votes_least.calls (a0_0 : Int) (A0_1 : Option Addr) (c0_1 : Nat) (l0_1 : List Bool) (r : List (List Int)) (w : World) (hr0_1 : Kd.C Kd.bool w A0_1 l0_1.length l0_1) (hc0_1 : l0_1.length ≤ c0_1) (h : impl_votes_least.f a0_0 l0_1 = some r) :
  Calls Tryz.prog 146 #[.agg #[.int .i64 a0_0, .slice A0_1 l0_1.length c0_1]] w fun e w' => ∃ v0_ : Value, e = .returned (v0_) ∧ Kd.S (Kd.slice 3 (Kd.int .i64)) 36 w' w.heap.size (fun _ => True) v0_ r ∧ Below w.heap.size w w' := by
 unfold impl_votes_least.f vOk at h
 split at h
 ·rename_i h1
  have h1 := of_decide_eq_true h1
  obtain rfl := Option.some.inj h
  obtain ⟨n, rfl⟩ := Int.eq_ofNat_of_zero_le h1.1
  have h2 := h1.2.1
  have h3 := h1.2.2
  rw [Int.toNat_natCast] at h3 ⊢
  exact least_any n (by omega) A0_1 c0_1 l0_1 h3 w hr0_1 hc0_1
 ·cases h
end Go.Proofs.YtnncjnjfdhbddaaGreat.Z
namespace Go.Proofs.YtnncjnjfdhbddaaGreat.Z
open Go.RowKit Go.Proofs.YtnncjnjfdhbddaaGreatW.PrintWords Go.Proofs.YtnncjnjfdhbddaaGreatW.PrintLast Go.Proofs.YtnncjnjfdhbddaaGreatW.PrintMore
attribute [local go_sem] max2_int min2_int max_two min_two max_three min_three max_four min_four
set_option linter.unusedVariables false
set_option linter.unusedSimpArgs false
def impl_votes_game.f (a0_0 : Int) (l0_1 : List Bool) : Option (Int × (List (List Int))) := (impl_votes_least.f a0_0 l0_1).bind fun t659 => (some (a0_0, t659))
set_option maxHeartbeats 8000000 in
set_option maxRecDepth 100000 in
theorem impl_votes_game.calls (a0_0 : Int) (A0_1 : Option Addr) (c0_1 : Nat) (l0_1 : List Bool) (r1 : Int) (r2 : List (List Int)) (w : World) (hr0_1 : Kd.C Kd.bool w A0_1 l0_1.length l0_1) (hc0_1 : l0_1.length ≤ c0_1) (h : impl_votes_game.f a0_0 l0_1 = some (r1, r2)) :
  Calls Tryz.prog 120 #[.agg #[.int .i64 a0_0, .slice A0_1 l0_1.length c0_1]] w fun e w' => ∃ v1_ : Value, e = .returned (.agg #[.int .i64 r1, v1_]) ∧ Kd.S (Kd.slice 3 (Kd.int .i64)) 36 w' w.heap.size (fun _ => True) v1_ r2 ∧ Below w.heap.size w w' := by
 have hu68 := Tryz.underlying68
 have hu28 := Tryz.underlying28
 have HR0_1 := Aside0.mk hr0_1
 have HC0_1 := Aside0.mk hc0_1
 clear hr0_1 hc0_1
 have HB := Aside0.mk (Below.refl w.heap.size w)
 have H : ((impl_votes_least.f a0_0 l0_1).bind fun t659 => (some (a0_0, t659))) = some (r1, r2) := h
 clear h
 replace H := Option.bind_eq_some_iff.mp H
 obtain ⟨t659, A20, H⟩ := H
 replace H : (some (a0_0, t659)) = some (r1, r2) := H
 have A2 := Aside0.mk A20
 clear A20
 simp only [Option.some.injEq, Prod.mk.injEq] at H
 obtain ⟨rfl, rfl⟩ := H
 go_enter Tryz.func120, Tryz.ntmps120
 try go_wp2_with (first | ((with_reducible refine gate_dst (N := 1) rfl ?_); refine box_event ?hg (N := 1) ?hd (cs := #[.int .i64 a0_0, .slice A0_1 l0_1.length c0_1]) (t := 68) ?hr ?_; (case hd => rfl); (case hg => rfl); (case hr => first | (go_simp; done) | (go_simp; rfl)); intro gb657 hg w3 hbox hb; have n0_ := Aside0.mk (below_step (by repeat (first | (with_reducible first | exact HB.out | apply below_alloc | apply pw_below_drewN | apply below_drew1) | exact HB.out)) hb); have n1_ := Aside0.mk (hbox); have n2_ := Aside0.mk ((by rw [hg]; exact (below_size (by repeat (first | (with_reducible first | exact HB.out | apply below_alloc | apply pw_below_drewN | apply below_drew1) | exact HB.out))) : w.heap.size ≤ gb657)); have n3_ := Aside0.mk ((by rw [hg]; exact (below_size (by repeat (first | (with_reducible first | exact HB.out | apply below_alloc | apply pw_below_drewN | apply below_drew1) | exact HB.out))) : w.heap.size ≤ gb657)); clear HB; have HB := n0_; have BK657 := n1_; have GW657 := n2_; have GE657 := n3_; clear n0_ n1_ n2_ n3_; clear hb hbox hg) | ((with_reducible refine gate_dst (N := 2) rfl ?_); refine box_event ?hg (N := 2) ?hd (cs := #[.int .i64 0, .slice none 0 0]) (t := 28) ?hr ?_; (case hd => rfl); (case hg => rfl); (case hr => first | (go_simp; done) | (go_simp; rfl)); intro gb658 hg w4 hbox hb; have n0_ := Aside0.mk (blk_below (g := gb657) (o := .cells #[.int .i64 a0_0, .slice A0_1 l0_1.length c0_1] 68 (0, 0)) (by (with_reducible repeat (first | refine blk_drewN ?_ _ | refine blk_drew ?_ | refine blk_alloc ?_ _)); exact BK657.out) hb); have n1_ := Aside0.mk (below_step (by repeat (first | (with_reducible first | exact HB.out | apply below_alloc | apply pw_below_drewN | apply below_drew1 | refine below_set ?_ GE657.out) | exact HB.out)) hb); have n2_ := Aside0.mk (hbox); have n3_ := Aside0.mk ((by rw [hg]; exact (below_size (by repeat (first | (with_reducible first | exact HB.out | apply below_alloc | apply pw_below_drewN | apply below_drew1 | refine below_set ?_ GE657.out) | exact HB.out))) : w.heap.size ≤ gb658)); have n4_ := Aside0.mk ((by rw [hg]; exact (below_size (by repeat (first | (with_reducible first | exact HB.out | apply below_alloc | apply pw_below_drewN | apply below_drew1 | refine below_set ?_ GE657.out) | exact HB.out))) : w.heap.size ≤ gb658)); have n5_ := Aside0.mk ((by rw [hg]; exact Nat.ne_of_lt (blk_lt (g := gb657) (o := .cells #[.int .i64 a0_0, .slice A0_1 l0_1.length c0_1] 68 (0, 0)) (by (with_reducible repeat (first | refine blk_drewN ?_ _ | refine blk_drew ?_ | refine blk_alloc ?_ _)); exact BK657.out)) : gb657 ≠ gb658)); have n6_ := Aside0.mk ((by rw [hg]; exact Nat.ne_of_gt (blk_lt (g := gb657) (o := .cells #[.int .i64 a0_0, .slice A0_1 l0_1.length c0_1] 68 (0, 0)) (by (with_reducible repeat (first | refine blk_drewN ?_ _ | refine blk_drew ?_ | refine blk_alloc ?_ _)); exact BK657.out)) : gb658 ≠ gb657)); clear BK657; clear HB; have BK657 := n0_; have HB := n1_; have BK658 := n2_; have GW658 := n3_; have GE658 := n4_; have NB657_658 := n5_; have NB658_657 := n6_; clear n0_ n1_ n2_ n3_ n4_ n5_ n6_; clear hb hbox hg))
 have n0_ := Aside0.mk (blk_drew BK657.out)
 have n1_ := Aside0.mk (blk_drew BK658.out)
 have n2_ := Aside0.mk (below_drew1 HB.out)
 clear BK657
 clear BK658
 clear HB
 have BK657 := n0_
 have BK658 := n1_
 have HB := n2_
 clear n0_ n1_ n2_
 refine start_ (n := 6) (S := fun w' => w'.cell? ⟨gb657, 0, none⟩ = some (.int .i64 a0_0) ∧ w'.cell? ⟨gb657, 1, none⟩ = some (.slice A0_1 l0_1.length c0_1)) (ds := []) #[false, false, false, false, false, false] (by kernel_rfl) rfl rfl ⟨(blk_cell BK657.out 0).trans rfl, (blk_cell BK657.out 1).trans rfl⟩ (fun hHeld => ?_)
 generalize w4.drew = w5 at BK657 BK658 HB hHeld ⊢
 refine pure_ (i := 0) (N := some 3) (v := ?_) (a' := ?_) #[true, false, false, false, false, false] rfl rfl (by kernel_rfl) (fun _ _ _ h => h) (Or.inl ⟨by rfl, ?_⟩) ?_ ?_
 rotate_left
 ·intro w'
  go_simp
  with_reducible rfl
 rotate_left
 ·simp only [Act.put, List.setIfInBounds_toArray, List.set_cons_zero, List.set_cons_succ, i64_w, i32_w]
  rfl
 refine take_ (i := 1) (N := some 4) (v := ?_) (a' := ?_) #[true, true, false, false, false, false] rfl rfl (by kernel_rfl) (fun _ _ _ h => h) (Or.inl ⟨by rfl, ?_⟩) hHeld ?_ ?_
 rotate_left
 ·rintro w' ⟨s0, s1⟩
  go_simp
  with_reducible rfl
 rotate_left
 ·simp only [Act.put, List.setIfInBounds_toArray, List.set_cons_zero, List.set_cons_succ, i64_w, i32_w]
  rfl
 refine take_ (i := 2) (N := some 5) (v := ?_) (a' := ?_) #[true, true, true, false, false, false] rfl rfl (by kernel_rfl) (fun _ _ _ h => h) (Or.inl ⟨by rfl, ?_⟩) hHeld ?_ ?_
 rotate_left
 ·rintro w' ⟨s0, s1⟩
  go_simp
  with_reducible rfl
 rotate_left
 ·simp only [Act.put, List.setIfInBounds_toArray, List.set_cons_zero, List.set_cons_succ, i64_w, i32_w]
  rfl
 refine one_ (i := 3) (N := some 6) #[true, true, true, true, false, false] rfl rfl (by kernel_rfl) (by decide) (fun K hK => ?_)
 refine goes_ Tryz.func146 (by kernel_rfl) rfl #[.agg #[.int .i64 a0_0, .slice A0_1 l0_1.length c0_1]] (by rfl) rfl rfl (by (try simp only [List.map_toArray, List.map_cons, List.map_nil]); first | done | rfl | (simp only [List.length_drop, List.length_take]; rfl)) ?_
 with_reducible refine (impl_votes_least.calls a0_0 _ _ l0_1 t659 _ ?side1 ?side2 A2.out).mono ?_
 (case side1 => repeat (first | exact (Kd.C_below HR0_1.out HB.out) | (with_reducible refine Kd.C_alloc ?_ _) | (with_reducible refine Kd.C_drewN ?_ _) | (with_reducible refine Kd.C_drew ?_)))
 (case side2 => exact HC0_1.out)
 rintro e w6 ⟨v660, rfl, ho0, hb⟩
 refine ⟨_, rfl, ?_⟩
 have n0_ := Aside0.mk (Kd.S_lower ho0 (below_size (by repeat (first | (with_reducible first | exact HB.out | apply below_alloc | apply pw_below_drewN | apply below_drew1 | refine below_set ?_ GE657.out | refine below_set ?_ GE658.out) | exact HB.out))))
 have n1_ := Aside0.mk (blk_below (g := gb657) (o := .cells #[.int .i64 a0_0, .slice A0_1 l0_1.length c0_1] 68 (0, 0)) (by (with_reducible repeat (first | refine blk_drewN ?_ _ | refine blk_drew ?_ | refine blk_alloc ?_ _)); exact BK657.out) hb)
 have n2_ := Aside0.mk (blk_below (g := gb658) (o := .cells #[.int .i64 0, .slice none 0 0] 28 (0, 0)) (by (with_reducible repeat (first | refine blk_drewN ?_ _ | refine blk_drew ?_ | refine blk_alloc ?_ _)); exact BK658.out) hb)
 have n3_ := Aside0.mk (below_step (by repeat (first | (with_reducible first | exact HB.out | apply below_alloc | apply pw_below_drewN | apply below_drew1 | refine below_set ?_ GE657.out | refine below_set ?_ GE658.out) | exact HB.out)) hb)
 clear BK657
 clear BK658
 clear HB
 have HO661 := n0_
 have BK657 := n1_
 have BK658 := n2_
 have HB := n3_
 clear n0_ n1_ n2_ n3_
 (try clear hb)
 (try clear hb2)
 (try clear hk)
 (try clear hi)
 (try clear ho0)
 obtain ⟨Ao7, co7, eo7⟩ := Kd.S_slice HO661.out
 (first | subst eo7 | (injection eo7 with f1_ f2_ f3_; have f4_ := f1_.symm; have f5_ := f3_.symm; clear f1_ f2_ f3_; subst f4_; subst f5_))
 refine hK.out _ _ ⟨(blk_cell BK657.out 0).trans rfl, (blk_cell BK657.out 1).trans rfl⟩ (fun hHeld => ?_)
 clear hK K
 refine norm_ (a' := ?_) ?_ ?_
 rotate_left
 ·show Act.put _ (some 6) _ = _
  simp only [Act.put, List.setIfInBounds_toArray, List.set_cons_zero, List.set_cons_succ, i64_w, i32_w]
  rfl
 refine pure_ (i := 4) (N := some 7) (v := ?_) (a' := ?_) #[true, true, true, true, true, false] rfl rfl (by kernel_rfl) (fun _ _ _ h => h) (Or.inl ⟨by rfl, ?_⟩) ?_ ?_
 rotate_left
 ·intro w'
  go_simp
  with_reducible rfl
 rotate_left
 ·simp only [Act.put, List.setIfInBounds_toArray, List.set_cons_zero, List.set_cons_succ, i64_w, i32_w]
  rfl
 refine one_ (i := 5) (N := none) #[true, true, true, true, true, true] rfl rfl (by kernel_rfl) (by decide) (fun K hK => ?_)
 have hs8 : w6.cell? ⟨gb658, 0, none⟩ = some (.int .i64 0) := (blk_cell BK658.out 0).trans rfl
 have hfs8 := blk_frozen BK658.out 0
 have hns8_0 := NB657_658.out
 have hms8_0 := NB658_657.out
 have hs9 : w6.cell? ⟨gb658, 1, none⟩ = some (.slice none 0 0) := (blk_cell BK658.out 1).trans rfl
 have hfs9 := blk_frozen BK658.out 1
 have hns9_0 := NB657_658.out
 have hms9_0 := NB658_657.out
 refine skip_ (w1 := ?_) (by rfl) rfl ?_ ?_
 rotate_left
 ·go_simp
  rfl
 refine hK.out _ _ ⟨((cell_far (p := ⟨gb658, _, none⟩) NB657_658.out _).trans (((cell_far (p := ⟨gb658, _, none⟩) NB657_658.out _).trans (hHeld.1)))), ((cell_far (p := ⟨gb658, _, none⟩) NB657_658.out _).trans (((cell_far (p := ⟨gb658, _, none⟩) NB657_658.out _).trans (hHeld.2))))⟩ (fun hHeld => ?_)
 clear hK K
 refine done_ (by kernel_rfl) ?_
 try go_wp2
 refine bodyPost_ret (results_cell_row rfl _ _ gb658 28 #[.int .i64 a0_0, .slice Ao7 t659.length co7] (0, 0) _ rfl (by (with_reducible repeat (first | refine blk_drewN ?_ _ | refine blk_drew ?_ | refine blk_alloc ?_ _)); refine blk_put (cs := #[.int .i64 a0_0, .slice none 0 0]) ?_ 1 _ rfl; (with_reducible repeat (first | refine blk_drewN ?_ _ | refine blk_drew ?_ | refine blk_alloc ?_ _)); refine blk_put (cs := #[.int .i64 0, .slice none 0 0]) ?_ 0 _ rfl; (with_reducible repeat (first | refine blk_drewN ?_ _ | refine blk_drew ?_ | refine blk_alloc ?_ _)); exact BK658.out) Tryz.underlying28 rfl (by kernel_rfl)) rfl ?_
 exact ⟨_, by first | rfl | (simp [errW_none, errW_some] <;> rfl) | (simp [*, errW_none, errW_some] <;> rfl), by (with_reducible repeat (first | apply Kd.S_alloc | apply Kd.S_drewN | apply Kd.S_drew)); exact Kd.S_mono (Kd.S_far (p := ⟨gb658, 1, none⟩) (Kd.S_far (p := ⟨gb658, 0, none⟩) (Kd.S_types HO661.out BK658.out (by decide)) (fun _ hk => hk.2) (.int .i64 a0_0)) (fun _ hk => hk.2) (.slice Ao7 t659.length co7)) (fun _ hk => trivial), by repeat (first | (with_reducible first | exact HB.out | apply below_alloc | apply pw_below_drewN | apply below_drew1 | refine below_set ?_ GE657.out | refine below_set ?_ GE658.out) | exact HB.out)⟩
end Go.Proofs.YtnncjnjfdhbddaaGreat.Z
namespace Go.Proofs.YtnncjnjfdhbddaaGreat.Z
open Go.RowKit Go.Proofs.YtnncjnjfdhbddaaGreatW.PrintWords Go.Proofs.YtnncjnjfdhbddaaGreatW.PrintLast Go.Proofs.YtnncjnjfdhbddaaGreatW.PrintMore
attribute [local go_sem] max2_int min2_int max_two min_two max_three min_three max_four min_four
set_option linter.unusedVariables false
set_option linter.unusedSimpArgs false
def bitsB (n t : Nat) : List Bool := (List.range (2 ^ n)).map fun m => t.testBit m
def isTab (n t : Nat) : Bool := !(t.testBit 0) && t.testBit (2 ^ n - 1)
def gameT (n t : Nat) : S28 := ⟨(n : Int), leastSets n (bitsB n t)⟩
def rawG (n : Nat) (l : List Nat) : List S28 := (l.filter (isTab n)).map (gameT n)
theorem rawG_yes (n : Nat) (l : List Nat) (k : Nat) (hk : k < l.length) (h : isTab n (l.getD k 0) = true) : rawG n (l.take (k + 1)) = rawG n (l.take k) ++ [gameT n (l.getD k 0)] := by
 have e : l.take (k + 1) = l.take k ++ [l.getD k 0] := by rw [List.take_succ_eq_append_getElem hk]; simp [List.getD_eq_getElem?_getD, hk]
 rw [e, rawG, List.filter_append, List.map_append, List.filter_cons, if_pos h]
 rfl
theorem rawG_no (n : Nat) (l : List Nat) (k : Nat) (hk : k < l.length) (h : isTab n (l.getD k 0) = false) : rawG n (l.take (k + 1)) = rawG n (l.take k) := by
 have e : l.take (k + 1) = l.take k ++ [l.getD k 0] := by rw [List.take_succ_eq_append_getElem hk]; simp [List.getD_eq_getElem?_getD, hk]
 rw [e, rawG, List.filter_append, List.map_append, List.filter_cons, if_neg (by rw [h]; simp)]
 simp [rawG]
theorem rawG_len (n : Nat) (l : List Nat) : (rawG n l).length ≤ l.length := by
 simp only [rawG, List.length_map]
 exact List.length_filter_le _ _
theorem infoG : (Tryz.prog.info? 28).map (fun i => (i.zero, i.size, i.bytes)) = some (some (.agg #[(.int .i64 0), (.slice none 0 0)]), 2, 32) := by kernel_rfl
theorem bitsB_len (n t : Nat) : (bitsB n t).length = 2 ^ n := by simp [bitsB]
theorem all_val (n : Nat) (h0 : 1 ≤ n) (h : n ≤ 4) (bl : List Bool) : impl_votes_all.f (n : Int) bl = some ((2 ^ n - 1 : Nat) : Int) := by
 have : n = 1 ∨ n = 2 ∨ n = 3 ∨ n = 4 := by omega
 rcases this with h | h | h | h <;> subst h <;> (simp only [impl_votes_all.f]; decide +kernel)
theorem game_val (n t : Nat) (h : n ≤ 4) : impl_votes_game.f (n : Int) (bitsB n t) = some ((n : Int), leastSets n (bitsB n t)) := by
 have h1 : vOk (n : Int) (bitsB n t) = true := by
  simp only [vOk, decide_eq_true_eq, bitsB_len, Int.toNat_natCast]
  exact ⟨by omega, by omega, trivial⟩
 simp only [impl_votes_game.f, impl_votes_least.f, h1, if_true, Option.bind_some, Int.toNat_natCast]
theorem bits_at (n t m : Nat) (h : m < 2 ^ n) : rdOf false (bitsB n t) (m : Int) = t.testBit m := by
 simp [rdOf, bitsB, List.getD_eq_getElem?_getD, h]
theorem allGames_v (n t : Nat) (hn : n ≤ 4) (h0 : 1 ≤ n) (b : Nat) (W : World) (hb : W.cell? ⟨b, 0, none⟩ = some (.int .i64 (t : Int))) (ht : t < 65536)
  (hfn : ∀ (m : Nat) (W' : World), m < 62 → W'.cell? ⟨b, 0, none⟩ = some (.int .i64 (t : Int)) → Calls Tryz.prog 117 #[.int .i64 (m : Int), .pointer (some ⟨b, 0, none⟩)] W' fun e w' => e = .returned (.bool (t.testBit m)) ∧ Below W'.heap.size W' w') :
  Calls Tryz.prog 112 #[.int .i64 (n : Int), .func (.func 117) #[] #[.pointer (some ⟨b, 0, none⟩)]] W fun e w' => ∃ A2 c2, e = .returned (.agg #[.int .i64 (n : Int), .slice A2 (bitsB n t).length c2]) ∧ Kd.C Kd.bool w' A2 (bitsB n t).length (bitsB n t) ∧ (bitsB n t).length ≤ c2 ∧ Below W.heap.size W w' := by
 have eg : ∀ args w, (callFunc 117 args).run Tryz.prog w = .ok (.enter 117 args) w := enters_of Tryz.func117 (by kernel_rfl) rfl
 have hpn : 2 ^ n ≤ 16 := by
  have : n = 1 ∨ n = 2 ∨ n = 3 ∨ n = 4 := by omega
  rcases this with h | h | h | h <;> subst h <;> decide
 refine (votesOf_any n (by omega) (fun m => t.testBit m) 117 #[.pointer (some ⟨b, 0, none⟩)] W eg
    (fun W' m hm hb' => hfn m W' (by omega) ((hb'.cell (World.block_lt_of_cell? W _ hb)).trans hb))).mono ?_
 rintro e w2 ⟨v2, rfl, ho, hb⟩
 change Kd.R Kd.bool 4 w2 W.heap.size _ v2 (bitsB n t) at ho
 obtain ⟨A2, c2, rfl, hl2, hC2⟩ := Kd.R_reads ho
 exact ⟨A2, c2, rfl, hC2, hl2, hb⟩
theorem sortGames_S (W : World) (base : Nat) (A : Option Addr) (c : Nat) (xs : List S28) (hx : xs.length ≤ 100000)
  (hS : Kd.S kGS 28 W base (fun _ => True) (.slice A xs.length c) xs) :
  Calls Tryz.prog 121 #[.slice A xs.length c, .func (.func 122) #[] #[]] W fun e w' => e = .returned (.tuple #[]) ∧ ∃ xs', SortedBy cmpLL S28.f1 xs xs' ∧ Kd.S kGS 28 w' base (fun _ => True) (.slice A xs.length c) xs' ∧ W.grownBy w' (Value.slice A xs.length c).ownBlock := by
 rcases Nat.eq_zero_or_pos xs.length with h0 | h0
 ·obtain rfl := List.eq_nil_of_length_eq_zero h0
  refine (show Calls Tryz.prog 121 _ W _ from AnyF.slices_SortFunc_none { Tryz.sortG with } A c (.func (.func 122) #[] #[]) W).mono ?_
  rintro e w' ⟨he, rfl⟩
  exact ⟨he, [], ⟨List.Perm.refl _, List.Pairwise.nil⟩, hS, World.grownBy.refl _ _⟩
 ·obtain ⟨g, cap, e, _⟩ := Kd.S_form hS h0
  rw [e] at hS ⊢
  obtain ⟨f, ps, hR, rfl, hnd⟩ := tags_of_S hS
  have hl : (ps.map Prod.fst).length = ps.length := by simp
  rw [hl] at hR hx h0 ⊢
  refine (sortGames_by (Kd.tag f kGS) Prod.fst (z28, 0) rfl (fun _ _ _ h => h) W base g cap ps hx h0 hR).mono ?_
  rintro e w' ⟨h1, ps', h2, h3, h4⟩
  exact ⟨h1, ps'.map Prod.fst, ⟨h2.1.map _, List.pairwise_map.2 h2.2⟩, S_of_tags h3 ((h2.1.map Prod.snd).nodup_iff.2 hnd), h4⟩
theorem allGames_fn (t m b : Nat) (ht : t < 2 ^ 62) (hm : m < 62) (W : World) (h1 : W.cell? ⟨b, 0, none⟩ = some (.int .i64 (t : Int))) :
  Calls Tryz.prog 117 #[.int .i64 (m : Int), .pointer (some ⟨b, 0, none⟩)] W fun e w' => e = .returned (.bool (t.testBit m)) ∧ Below W.heap.size W w' := by
 have hh := has_eq t m ht hm
 generalize t.testBit m = q at hh
 have HH := Aside0.mk hh
 clear hh
 go_enter Tryz.func117, Tryz.ntmps117
 go_wp2_with (go_at_call 118; refine (impl_has.calls (t : Int) (m : Int) _ _ HH.out).mono ?_; rintro e w' ⟨rfl, hd⟩; have HD := Aside0.mk hd.below; clear hd)
 go_ret
 exact ⟨rfl, HD.out⟩
set_option maxRecDepth 100000 in
set_option maxHeartbeats 8000000 in
theorem allGames_S (n : Nat) (hn : n ≤ 4) (hn1 : 1 ≤ n) (w : World) :
  Calls Tryz.prog 78 #[.int .i64 (n : Int)] w fun e w' => ∃ v : Value, e = .returned v ∧ (∃ xs', SortedBy cmpLL S28.f1 (rawG n (tabs n)) xs' ∧ Kd.S kGS 28 w' w.heap.size (fun _ => True) v xs') ∧ Below w.heap.size w w' := by
 have hu68 := Tryz.underlying68
 have hu28 := Tryz.underlying28
 have h1 := tabs_len n hn
 have h2 := tabs_lt n hn
 have ih := tables_any n hn
 generalize tabs n = l at *
 have ih2 : ∀ w, Calls Tryz.prog 116 #[.int .i64 (n : Int)] w fun e w' => ∃ A1 c1, e = .returned (.slice A1 l.length c1) ∧ Kd.R (Kd.int .i64) 3 w' w.heap.size (fun _ => True) (.slice A1 l.length c1) (tabI l) ∧ Below w.heap.size w w' := fun w => (ih w).mono fun e w' ⟨v, he, hR, hB⟩ => by
  obtain ⟨A1, c1, rfl, _, hC⟩ := Kd.R_reads hR
  have e1 : (tabI l).length = l.length := by simp [tabI]
  rw [e1] at he hR
  exact ⟨A1, c1, he, hR, hB⟩
 have IH := Aside0.mk ih2
 have HL := Aside0.mk h2
 have HLEN := Aside0.mk (fun k => Nat.le_trans (rawG_len n (l.take k)) (Nat.le_trans (List.length_take_le' _ _) h1))
 obtain ⟨N, hNl⟩ : ∃ N, N = l.length := ⟨_, rfl⟩
 rw [← hNl] at IH h1
 have HN := Aside0.mk hNl
 clear ih ih2 h2 hNl
 go_enter Tryz.func78, Tryz.ntmps78
 go_wp2_with (go_at_call 116; refine (IH.out _).mono ?_; rintro e w1 ⟨A1, c1, rfl, hC, hb⟩; have HC := Aside0.mk hC; have HB := Aside0.mk hb; clear hb hC)
 clear IH
 have hpn : 1 ≤ 2 ^ n ∧ 2 ^ n ≤ 16 := by
  have : n = 1 ∨ n = 2 ∨ n = 3 ∨ n = 4 := by omega
  rcases this with h | h | h | h <;> subst h <;> decide
 have HPN := Aside0.mk hpn
 go_loopg [3, 5, 6, 11] N (fun gg v3 _ _ s11 wr => ∃ kk : Nat, kk ≤ N ∧ N - kk ≤ gg ∧ s11 = .int .i64 kk ∧ Aside0 (Below w.heap.size w wr) ∧ Aside0 (Kd.R (Kd.int .i64) 3 wr w.heap.size (fun _ => True) (.slice A1 N c1) (tabI l)) ∧ Aside0 (Kd.S kGS 28 wr w.heap.size (fun _ => True) v3 (rawG n (l.take kk))))
 case atStart =>
  refine ⟨0, by omega, by omega, rfl, ⟨Below.trans ((Below.refl _ _).alloc (Nat.le_refl _) _) (HB.out.mono (by simp))⟩, ⟨Kd.R_lower HC.out (by simp)⟩, ⟨?_⟩⟩
  refine ⟨fun _ => 0, fun _ _ => trivial, [], ⟨rfl, .inr ⟨w.heap.size, 0, #[], rfl, Nat.le_refl _, ?_, Nat.le_refl _, by simp [maxLen], rfl, rfl⟩⟩, Reps.none _ _⟩
  exact (HB.out.block _ (by simp)).trans (heap1_0 _ _)
 case round =>
  obtain ⟨kk, hkk, hg, rfl, BW, HT, HO⟩ := hrel
  by_cases hlt : kk < N
  ·have hltz : (kk : Int) < (N : Int) := by omega
   have h0z : (0 : Int) ≤ (kk : Int) := by omega
   obtain ⟨ad, e, hcell⟩ := Kd.at_int (Kd.R_reads' HT.out).2.2 (kk : Int) h0z (by have := HN.out; simp only [tabI, List.length_map]; omega)
   rw [tabI_get, Int.toNat_natCast] at hcell
   have ht := HL.out (l.getD kk 0) (by have := HN.out; simp [List.getD_eq_getElem?_getD, show kk < l.length by omega])
   have hyes := rawG_yes n l kk (by have := HN.out; omega)
   have hno := rawG_no n l kk (by have := HN.out; omega)
   generalize l.getD kk 0 = t at hcell ht hyes hno
   subst e
   have hlb := bitsB_len n t
   have hvo := fun (W : World) (b : Nat) (h1 : W.cell? ⟨b, 0, none⟩ = some (.int .i64 (t : Int))) => allGames_v n t hn hn1 b W h1 ht (fun m W' hm h2 => allGames_fn t m b (by omega) hm W' h2)
   have hall := fun (A : Option Addr) (c : Nat) (W : World) (h1 : Kd.C Kd.bool W A (bitsB n t).length (bitsB n t)) (h2 : (bitsB n t).length ≤ c) => impl_votes_all.calls (n : Int) A c (bitsB n t) _ W h1 h2 (all_val n hn1 hn _)
   have hgame := fun (A : Option Addr) (c : Nat) (W : World) (h1 : Kd.C Kd.bool W A (bitsB n t).length (bitsB n t)) (h2 : (bitsB n t).length ≤ c) => impl_votes_game.calls (n : Int) A c (bitsB n t) _ _ W h1 h2 (game_val n t hn)
   change isTab n t = true → rawG n (l.take (kk+1)) = rawG n (l.take kk) ++ [⟨(n : Int), leastSets n (bitsB n t)⟩] at hyes
   have hm0 : rdOf false (bitsB n t) 0 = t.testBit 0 := bits_at n t 0 (by have := HPN.out; omega)
   have hmn : rdOf false (bitsB n t) ((2 ^ n - 1 : Nat) : Int) = t.testBit (2 ^ n - 1) := bits_at n t _ (by have := HPN.out; omega)
   have hpn := HPN.out
   have hit : isTab n t = (!(t.testBit 0) && t.testBit (2 ^ n - 1)) := rfl
   generalize leastSets n (bitsB n t) = gs at hgame hyes
   generalize bitsB n t = bl at *
   generalize t.testBit 0 = q0 at *
   generalize t.testBit (2 ^ n - 1) = q1 at *
   rw [← hlb] at hpn hall hmn
   generalize isTab n t = it at *
   obtain ⟨Q, hQ⟩ : ∃ Q, Q = bl.length := ⟨_, rfl⟩
   rw [← hQ] at hvo hall hgame hpn hmn
   obtain ⟨M, hMQ⟩ : ∃ M, M = Q - 1 := ⟨_, rfl⟩
   rw [← hMQ] at hall hmn
   have hM1 : M < Q := by omega
   have hM2 : (M : Int) < (Q : Int) := by omega
   have hM3 : (0 : Int) ≤ (M : Int) := by omega
   have hQ1 : 0 < Q := by omega
   have HVO := Aside0.mk hvo
   have HALL := Aside0.mk hall
   have HGAME := Aside0.mk hgame
   have HY := Aside0.mk hyes
   have HNo := Aside0.mk hno
   have HM := Aside0.mk (And.intro hm0 hmn)
   have HQ := Aside0.mk hQ
   have HIT := Aside0.mk hit
   have HRL := Aside0.mk (HLEN.out kk)
   clear hvo hall hgame hyes hno hlb hm0 hmn hQ hit hMQ
   go_wp2_with (go_at_call 112; refine (HVO.out _ wr.heap.size (by simp)).mono ?_; rintro e w2 ⟨A2, c2, rfl, hC2, hl2, hb⟩; have HC2 := Aside0.mk hC2; have HB2 := Aside0.mk hb; have HL2 := Aside0.mk hl2; clear hb hC2 hl2)
   obtain ⟨ad, e, hc0⟩ := Kd.at_bool HC2.out 0 (by omega) (by omega)
   obtain ⟨ad', e', hc1⟩ := Kd.at_bool HC2.out (M : Int) (by omega) (by omega)
   subst e
   cases e'
   have had : ad.add (0 : Int).toNat = ad := rfl
   rw [HM.out.1, had] at hc0
   clear had
   rw [HM.out.2, Int.toNat_natCast] at hc1
   have hv0 : ∀ o, (w2.alloc o).cell? ad = some (.bool q0) := fun o => (World.cell?_alloc_lt _ _ _ (World.block_lt_of_cell? w2 _ hc0)).trans hc0
   have HCH := Aside0.mk (show Below wr.heap.size wr w2 from Below.trans ((Below.refl _ _).alloc (Nat.le_refl _) _) (HB2.out.mono (by simp)))
   cases q0 with
   | true =>
    go_quiet (fail)
    go_wp2
    go_roundg (N - (kk + 1))
    case measure => omega
    case rel =>
     have e1 := HNo.out (by rw [HIT.out]; rfl)
     refine ⟨kk + 1, by omega, by omega, by go_num, ⟨?_⟩, ⟨?_⟩, ⟨?_⟩⟩
     ·exact Below.trans BW.out ((pw_below_drewN (below_alloc HCH.out _) _).mono BW.out.size)
     ·exact Kd.R_below HT.out (pw_below_drewN (below_alloc HCH.out _) _)
     ·rw [e1]
      exact Kd.S_below HO.out (pw_below_drewN (below_alloc HCH.out _) _)
   | false =>
    go_region_held3 (fun w' => w'.cell? ⟨w2.heap.size, 0, none⟩ = some (.int .i64 (n : Int)) ∧ w'.cell? ⟨w2.heap.size, 1, none⟩ = some (.slice (some ad) Q c2) ∧ w'.cell? ad = some (.bool false) ∧ w'.cell? (ad.add M) = some (.bool q1)) (go_keep)
     (first | (go_at_call 119; refine (HALL.out _ _ _ (Kd.C_below HC2.out (below_drew (below_alloc (Below.refl _ _) _))) HL2.out).mono ?_; rintro e w3 ⟨rfl, hb3⟩; have hbw : Below w2.heap.size w2 w3 := Below.trans (below_drew (below_alloc (Below.refl _ _) _)) (hb3.mono (by simp)); have hk0 : w3.cell? ad = some (.bool false) := (hbw.cell (World.block_lt_of_cell? w2 _ hc0)).trans hc0; have hk1 : w3.cell? (ad.add M) = some (.bool q1) := (hbw.cell (World.block_lt_of_cell? w2 _ hc1)).trans hc1; have hbx : w3.heap[w2.heap.size]? = some (.cells #[.int .i64 (n : Int), .slice (some ad) Q c2] 68 (0, 0)) := blk_below (blk_drewN (heap1_0 _ _) _) hb3; have hx0 : w3.cell? ⟨w2.heap.size, 0, none⟩ = some (.int .i64 (n : Int)) := (blk_cell hbx 0).trans rfl; have hx1 : w3.cell? ⟨w2.heap.size, 1, none⟩ = some (.slice (some ad) Q c2) := (blk_cell hbx 1).trans rfl; have HBW := Aside0.mk hbw; clear hb3 hbw hbx))
    have HC3 := Aside0.mk (Below.trans HCH.out (HBW.out.mono HCH.out.size))
    cases q1 with
    | false =>
     go_wp2
     go_roundg (N - (kk + 1))
     case measure => omega
     case rel =>
      have e1 := HNo.out (by rw [HIT.out]; rfl)
      refine ⟨kk + 1, by omega, by omega, by go_num, ⟨?_⟩, ⟨?_⟩, ⟨?_⟩⟩
      ·exact Below.trans BW.out (HC3.out.mono BW.out.size)
      ·exact Kd.R_below HT.out HC3.out
      ·rw [e1]
       exact Kd.S_below HO.out HC3.out
    | true =>
     go_wp2_with (first | (go_at_call 120; refine (HGAME.out _ _ _ (Kd.C_below HC2.out HBW.out) HL2.out).mono ?_; rintro e w4 ⟨v4, rfl, ho4, hb4⟩; have HO4 := Aside0.mk ho4; have HB4 := Aside0.mk hb4; clear ho4 hb4) | ((with_reducible refine gate_builtin (b := .append) (xs := #[.tmp 31, .tmp 34]) rfl ?_); at_builtin; refine Kd.S_append kGS (w0 := w) w.heap.size rfl (.tmp 31) (.tmp 34) 53 28 (.agg #[.int .i64 0, .slice none 0 0]) 32 rfl Tryz.underlying53 infoG rfl (by decide) (by decide) u3 (rawG n (l.take kk)) ⟨(n : Int), gs⟩ [.int .i64 (n : Int), v4] (fun _ => True) (fun k => w3.heap.size ≤ k ∧ k < w4.heap.size) rfl rfl ?aP ?aQ (fun _ _ => trivial) ?aO ?aB ?aS ?aL ?_; (case aP => exact ⟨v4, rfl, (Kd.S_mono (Kd.S_lower (Kd.S_bound HO4.out) (Nat.le_trans BW.out.size HC3.out.size)) (fun k hk => ⟨hk.2.1, hk.2.2.1⟩))⟩); (case aQ => exact fun k hk => ⟨trivial, fun e => by have h1 := Kd.S_lt HO.out k e.symm; have h2 := HC3.out.size; omega⟩); (case aO => exact Kd.S_below (Kd.S_mono (Kd.S_bound HO.out) (fun k hk => ⟨trivial, fun h => by have h1 := hk.2.2.1; have h2 := HC3.out.size; omega⟩)) (Below.trans HC3.out (HB4.out.mono HC3.out.size))); (case aB => exact Below.trans (Below.trans BW.out (HC3.out.mono BW.out.size)) (HB4.out.mono (Nat.le_trans BW.out.size HC3.out.size))); (case aS => exact Nat.le_trans (Nat.le_trans BW.out.size HC3.out.size) HB4.out.size); (case aL => have h1 := HRL.out; omega); intro v5 w5 ho5 hb5 hg5 hat5; have HO5 := Aside0.mk ho5; have HB5 := Aside0.mk hb5; have HG5 := Aside0.mk hg5; clear ho5 hb5 hg5 hat5))
     go_roundg (N - (kk + 1))
     case measure => omega
     case rel =>
      have e1 := HY.out (by rw [HIT.out]; rfl)
      refine ⟨kk + 1, by omega, by omega, by go_num, HB5, ⟨?_⟩, ⟨?_⟩⟩
      ·have h4 := Below.trans HC3.out (HB4.out.mono HC3.out.size)
       exact Kd.R_over' (Kd.R_below HT.out h4) (Kd.S_typed (Kd.S_below HO.out h4)) (by decide) HG5.out
      ·rw [e1]
       exact HO5.out
  ·have hltz : ¬ (kk : Int) < (N : Int) := by omega
   have : kk = N := by omega
   subst this
   have ho := HO.out
   rw [HN.out, List.take_length] at ho
   obtain ⟨Av, cv, rfl⟩ := Kd.S_slice ho
   have hs := sortGames_S wr w.heap.size Av cv (rawG n l) (by have := HLEN.out l.length; rw [List.take_length] at this; omega) ho
   have HS := Aside0.mk hs
   have HO' := Aside0.mk ho
   clear hs ho
   go_wp2_with (go_at_call 121; refine HS.out.mono ?_; rintro e w1 ⟨rfl, xs', hx, ho, hg⟩; have HX := Aside0.mk hx; have HO1 := Aside0.mk ho; have HG1 := Aside0.mk hg; clear hx ho hg)
   go_ret
   exact ⟨_, rfl, ⟨xs', HX.out, HO1.out⟩, BW.out.grown HG1.out BW.out.size (Kd.S_base HO'.out)⟩
def allG (n : Nat) : List S28 := (sortC cmpLL ((rawG n (tabs n)).map S28.f1)).map fun ws => ⟨(n : Int), ws⟩
theorem allG_of (n : Nat) (xs : List S28) (h : SortedBy cmpLL S28.f1 (rawG n (tabs n)) xs) : xs = allG n := by
 have h1 := sortC_unique Cmp.LL (h.1.map S28.f1) (List.pairwise_map.2 h.2)
 have h2 : ∀ x ∈ xs, x = ⟨(n : Int), x.f1⟩ := fun x hx => by
  have h3 := h.1.mem_iff.1 hx
  unfold rawG at h3
  obtain ⟨t, _, rfl⟩ := List.mem_map.1 h3
  rfl
 rw [allG, ← h1, List.map_map]
 exact (List.map_congr_left (g := fun x => (⟨(n : Int), x.f1⟩ : S28)) (f := id) h2 ▸ (List.map_id xs).symm)
def impl_allGames.f (a0 : Int) : Option ((List (S28))) := if 1 ≤ a0 ∧ a0 ≤ 4 then some (allG a0.toNat) else none
theorem allGames_apart (a0 : Int) (r : List (S28)) (w : World) (h : impl_allGames.f a0 = some r) :
  Calls Tryz.prog 78 #[.int .i64 a0] w fun e w' => ∃ v0_ : Value, e = .returned (v0_) ∧ Kd.S kGS 28 w' w.heap.size (fun _ => True) v0_ r ∧ Below w.heap.size w w' := by
 unfold impl_allGames.f at h
 split at h
 ·rename_i h1
  obtain rfl := Option.some.inj h
  obtain ⟨n, rfl⟩ := Int.eq_ofNat_of_zero_le (show 0 ≤ a0 by omega)
  rw [Int.toNat_natCast]
  refine (allGames_S n (by omega) (by omega) w).mono ?_
  rintro e w' ⟨v, he, ⟨xs, hx, hR⟩, hB⟩
  rw [allG_of n xs hx] at hR
  exact ⟨v, he, hR, hB⟩
 ·cases h
end Go.Proofs.YtnncjnjfdhbddaaGreat.Z
namespace Go.Proofs.YtnncjnjfdhbddaaGreat.Z
open Go.RowKit Go.Proofs.YtnncjnjfdhbddaaGreatW.PrintWords Go.Proofs.YtnncjnjfdhbddaaGreatW.PrintLast Go.Proofs.YtnncjnjfdhbddaaGreatW.PrintMore
attribute [local go_sem] max2_int min2_int max_two min_two max_three min_three max_four min_four
set_option linter.unusedVariables false
set_option linter.unusedSimpArgs false
set_option maxHeartbeats 2000000 in
theorem indexFunc_int (p : Int → Bool) (g : Nat) (cb : Array Value) (A : Option Addr) (c : Nat) (l : List Int) (w : World)
  (eg : ∀ args w, (callFunc g args).run Tryz.prog w = .ok (.enter g args) w)
  (hr : Kd.C (Kd.int .i64) w A l.length l)
  (hp : ∀ W x, x ∈ l → Below w.heap.size w W → Calls Tryz.prog g (#[.int .i64 x] ++ cb) W fun e w' => e = .returned (.bool (p x)) ∧ Below W.heap.size W w') :
  Calls Tryz.prog 145 #[.slice A l.length c, .func (.func g) #[] cb] w fun e w' => e = .returned (.int .i64 (idxI p l)) ∧ Below w.heap.size w w' := by
 have HR := Aside0.mk hr
 have HP := Aside0.mk hp
 have hm := hr.2.1
 clear hr hp
 go_enter Tryz.func145, Tryz.ntmps145
 go_wp2
 go_loopg [5, 8] l.length (fun gg _ s8 wr => ∃ kk : Nat, kk ≤ l.length ∧ l.length - kk ≤ gg ∧ s8 = .int .i64 kk ∧ Aside0 (Below w.heap.size w wr) ∧ Aside0 (∀ j, j < kk → p (l.getD j 0) = false))
 case atStart => exact ⟨0, Nat.zero_le _, by omega, rfl, ⟨Below.refl _ w⟩, ⟨fun j hj => absurd hj (Nat.not_lt_zero _)⟩⟩
 case round =>
  obtain ⟨kk, hkk, hg, rfl, BW, HA⟩ := hrel
  by_cases hlt : kk < l.length
  ·have hltz : (kk : Int) < (l.length : Int) := by omega
   obtain ⟨ad, e, hcell⟩ := Kd.at_int (Kd.C_below HR.out BW.out) (kk : Int) (by omega) hltz
   subst e
   rw [Int.toNat_natCast] at hcell
   have hy0 : rd l (kk : Int) = l.getD kk 0 := by simp [rd]
   have hmem : l.getD kk 0 ∈ l := by simp [List.getD_eq_getElem?_getD, hlt]
   rw [hy0] at hcell
   have hcall := HP.out wr _ hmem BW.out
   clear hy0 hmem HR HP
   generalize hy : l.getD kk 0 = y at hcell hcall
   have B := Aside0.mk hy
   clear hy
   cases hq : p y with
   | true =>
    rw [hq] at hcall
    have Q := Aside0.mk hq
    clear hq
    go_wp2_with (go_at_fn g; refine hcall.mono ?_; rintro e w' ⟨rfl, hb'⟩)
    go_ret
    refine ⟨?_, Below.trans BW.out (hb'.mono BW.out.size)⟩
    rw [idxI_hit p l 0 kk hlt (by rw [B.out]; exact Q.out) HA.out]
    rfl
   | false =>
    rw [hq] at hcall
    have Q := Aside0.mk hq
    clear hq
    go_wp2_with (go_at_fn g; refine hcall.mono ?_; rintro e w' ⟨rfl, hb'⟩)
    go_roundg (l.length - (kk + 1))
    case measure => omega
    case rel =>
     refine ⟨kk + 1, by omega, by omega, by go_num, ⟨Below.trans BW.out (hb'.mono BW.out.size)⟩, ⟨fun j hj => ?_⟩⟩
     by_cases e : j = kk
     ·subst e
      rw [B.out]; exact Q.out
     ·exact HA.out j (by omega)
  ·have hltz : ¬ (kk : Int) < (l.length : Int) := by omega
   have : kk = l.length := by omega
   subst this
   go_wp2
   go_ret
   refine ⟨?_, BW.out⟩
   rw [idxI_miss p l 0 HA.out]
   rfl
set_option maxHeartbeats 2000000 in
theorem containsFunc_int (p : Int → Bool) (g : Nat) (cb : Array Value) (A : Option Addr) (c : Nat) (l : List Int) (w : World)
  (eg : ∀ args w, (callFunc g args).run Tryz.prog w = .ok (.enter g args) w)
  (hr : Kd.C (Kd.int .i64) w A l.length l)
  (hp : ∀ W x, x ∈ l → Below w.heap.size w W → Calls Tryz.prog g (#[.int .i64 x] ++ cb) W fun e w' => e = .returned (.bool (p x)) ∧ Below W.heap.size W w') :
  Calls Tryz.prog 114 #[.slice A l.length c, .func (.func g) #[] cb] w fun e w' => e = .returned (.bool (l.any p)) ∧ Below w.heap.size w w' := by
 rw [← idxI_nonneg]
 have hI := indexFunc_int p g cb A c l w eg hr hp
 generalize idxI p l = i at hI
 go_enter Tryz.func114, Tryz.ntmps114
 go_wp2_with (go_at_call 145; refine hI.mono ?_; rintro e w' ⟨rfl, hb'⟩)
 go_ret
 exact ⟨rfl, hb'⟩
end Go.Proofs.YtnncjnjfdhbddaaGreat.Z
namespace Go.Proofs.YtnncjnjfdhbddaaGreat.Z
open Go.RowKit Go.Proofs.YtnncjnjfdhbddaaGreatW.PrintWords Go.Proofs.YtnncjnjfdhbddaaGreatW.PrintLast Go.Proofs.YtnncjnjfdhbddaaGreatW.PrintMore
attribute [local go_sem] max2_int min2_int max_two min_two max_three min_three max_four min_four
set_option linter.unusedVariables false
set_option linter.unusedSimpArgs false
def impl_maskOf.l0 : Nat → Int → List Int → Int → Int → Option (Int)
 | 0, _, _, _, _ => none
 | k + 1, x3, x6, x7, x8 => if x8 < x7 then (if 0 ≤ x8 then (if x8 < (x6.length : Int) then (if 0 ≤ (rd x6 x8) then (impl_maskOf.l0 k (Go.bits .or .i64 x3 (shl .i64 1 (rd x6 x8))) x6 x7 (wrap64 (x8 + 1))) else (none)) else (none)) else (none)) else (some x3)
def impl_maskOf.f (k : Nat) (l0 : List Int) : Option (Int) := impl_maskOf.l0 k 0 l0 (l0.length : Int) 0
set_option maxHeartbeats 8000000 in
set_option maxRecDepth 100000 in
theorem impl_maskOf.calls (k : Nat) (A0 : Option Addr) (c0 : Nat) (l0 : List Int) (r : Int) (w : World) (hr0 : Kd.C (Kd.int .i64) w A0 l0.length l0) (hc0 : l0.length ≤ c0) (h : impl_maskOf.f k l0 = some r) :
  Calls Tryz.prog 111 #[.slice A0 l0.length c0] w fun e w' => e = .returned (.int .i64 r) ∧ Drawn0 w w' := by
 have HR0 := Aside0.mk hr0
 have HC0 := Aside0.mk hc0
 clear hr0 hc0
 have H : (impl_maskOf.l0 k 0 l0 (l0.length : Int) 0) = some r := h
 clear h
 have H' := Aside0.mk H
 clear H
 go_enter Tryz.func111, Tryz.ntmps111
 go_wp2
 go_loopg [3, 8] k (fun kq v3 v8 w' => ∃ (x3_1 : Int) (x8_1 : Int), v3 = .int .i64 x3_1 ∧ v8 = .int .i64 x8_1 ∧ Aside0 (impl_maskOf.l0 kq x3_1 l0 (l0.length : Int) x8_1 = some r) ∧ Aside0 (kq ≤ k) ∧ Drawn0 w w')
 case atStart => exact ⟨(0), (0), (by first | rfl | (simp; done) | (simp [*]; done)), (by first | rfl | (simp; done) | (simp [*]; done)), H', ⟨Nat.le_refl _⟩, by repeat (first | exact Drawn0.refl _ | apply Drawn0.step)⟩
 case round =>
  clear H'
  try clear c1
  obtain ⟨x3_1, x8_1, rfl, rfl, HA, HK1, ⟨m1, rfl⟩⟩ := hrel
  cases gk with
  | zero => exact absurd HA.out (by simp [impl_maskOf.l0])
  | succ k1 =>
   have H := HA.out
   clear HA
   simp only [impl_maskOf.l0] at H
   by_cases c2 : x8_1 < (l0.length : Int)
   ·rw [if_pos c2] at H
    have c2b0 : decide (x8_1 < (l0.length : Int)) = true := decide_eq_true c2
    clear c2
    by_cases c3 : 0 ≤ x8_1
    ·rw [if_pos c3] at H
     have c3b0 : decide (0 ≤ x8_1) = true := decide_eq_true c3
     clear c3
     by_cases c4 : x8_1 < (l0.length : Int)
     ·rw [if_pos c4] at H
      have c4b0 : decide (x8_1 < (l0.length : Int)) = true := decide_eq_true c4
      clear c4
      by_cases c5 : 0 ≤ (rd l0 x8_1)
      ·rw [if_pos c5] at H
       have c5b0 := eq_true c5
       have c5b1 : decide (0 ≤ (rd l0 x8_1)) = true := decide_eq_true c5
       clear c5
       obtain ⟨ji6, hji6⟩ : ∃ j_ : Int, (shl .i64 1 (rd l0 x8_1)) = j_ := ⟨_, rfl⟩
       replace H : (impl_maskOf.l0 k1 (Go.bits .or .i64 x3_1 (ji6)) l0 (l0.length : Int) (wrap64 (x8_1 + 1))) = some r := by first | (rw [hji6] at H; exact H) | (simp only [hji6] at H ⊢; exact H)
       have hji6_ : (IntKind.i64.wrap (1 * 2 ^ min (rd l0 x8_1).toNat 64)) = ji6 := hji6
       have hji6z : (rd l0 x8_1) ≤ 64 → (IntKind.i64.wrap (1 * 2 ^ (rd l0 x8_1).toNat)) = ji6 := shl_small hji6
       have hji6u : (IntKind.i64.wrap (2 ^ min (rd l0 x8_1).toNat 64)) = ji6 := by have h_ := hji6_; rw [Int.one_mul] at h_; exact h_
       have hji6v : (rd l0 x8_1) ≤ 64 → (IntKind.i64.wrap (2 ^ (rd l0 x8_1).toNat)) = ji6 := fun hle_ => by have h_ := hji6z hle_; rw [Int.one_mul] at h_; exact h_
       have hji6y : (wrap64 (1 * 2 ^ min (rd l0 x8_1).toNat 64)) = ji6 := (i64_w _).symm.trans hji6_
       have hji6x : (rd l0 x8_1) ≤ 64 → (wrap64 (1 * 2 ^ (rd l0 x8_1).toNat)) = ji6 := fun h_ => (i64_w _).symm.trans (hji6z h_)
       have H' := Aside0.mk H
       clear H
       have p567 : 0 ≤ (x8_1 : Int) := of_decide_eq_true (by first | (with_reducible assumption) | assumption)
       have q567 : x8_1 < (l0.length : Int) := of_decide_eq_true (by first | (with_reducible assumption) | assumption)
       obtain ⟨ad567, e567, hx567_0⟩ := Kd.at_int HR0.out x8_1 p567 q567
       cases e567
       replace p567 := eq_true p567
       replace q567 := eq_true q567
       go_wp2
       go_roundg k1
       case measure => have := HK1.out; omega
       case rel => exact ⟨(Go.bits .or .i64 x3_1 (ji6)), (wrap64 (x8_1 + 1)), (by first | rfl | (simp; done) | (simp only [← hji6] <;> (first | rfl | simp)) | (simp [*]; done)), (by first | rfl | (simp; done) | (simp [*]; done)), H', ⟨by have := HK1.out; omega⟩, by repeat (first | exact Drawn0.refl _ | apply Drawn0.step)⟩
      ·rw [if_neg c5] at H
       exact absurd H (by simp)
     ·rw [if_neg c4] at H
      exact absurd H (by simp)
    ·rw [if_neg c3] at H
     exact absurd H (by simp)
   ·rw [if_neg c2] at H
    have c2b0 : decide (x8_1 < (l0.length : Int)) = false := decide_eq_false c2
    clear c2
    obtain rfl := Option.some.inj H
    go_wp2
    go_ret
    exact ⟨by first | rfl | (simp; done) | (simp [*]; done), by repeat (first | exact Drawn0.refl _ | apply Drawn0.step)⟩
end Go.Proofs.YtnncjnjfdhbddaaGreat.Z
namespace Go.Proofs.YtnncjnjfdhbddaaGreat.Z
open Go.RowKit Go.Proofs.YtnncjnjfdhbddaaGreatW.PrintWords Go.Proofs.YtnncjnjfdhbddaaGreatW.PrintLast Go.Proofs.YtnncjnjfdhbddaaGreatW.PrintMore
attribute [local go_sem] max2_int min2_int max_two min_two max_three min_three max_four min_four
set_option linter.unusedVariables false
set_option linter.unusedSimpArgs false
def hasAll (mask m : Nat) : Bool := mask &&& m == m
def VBox (b : Nat) (v : Value) (W : World) : Prop := W.heap[b]? = some (.cells #[v] 36 (0, 0))
def masksI (l : List Nat) : List Int := l.map fun (m : Nat) => (m : Int)
theorem votesBy_fn2 (mask m b : Nat) (hm : mask < 2 ^ 63) (h2 : m < 2 ^ 63) (W : World) (h1 : W.cell? ⟨b, 0, none⟩ = some (.int .i64 (mask : Int))) :
  Calls Tryz.prog 115 #[.int .i64 (m : Int), .pointer (some ⟨b, 0, none⟩)] W fun e w' => e = .returned (.bool (hasAll mask m)) ∧ W = w' := by
 have ha := and_nat mask m hm h2
 have hq : (((mask &&& m : Nat) : Int) == (m : Int)) = hasAll mask m := by
  unfold hasAll
  rw [Bool.eq_iff_iff]
  simp
  exact Int.ofNat_inj
 generalize hasAll mask m = q at hq
 go_enter Tryz.func115, Tryz.ntmps115
 go_wp2
 refine bodyPost_ret (v := .bool q) (by simp [results, Tryz.results115, go_sem]) rfl ?_
 exact ⟨rfl, rfl⟩
set_option maxHeartbeats 1000000 in
theorem votesBy_fn1 (mask b : Nat) (hm : mask < 2 ^ 63) (ms : List Nat) (h2 : ∀ m ∈ ms, m < 2 ^ 63) (A : Option Addr) (c : Nat) (W : World) (h1 : W.cell? ⟨b, 0, none⟩ = some (.slice A (masksI ms).length c)) (hr : Kd.C (Kd.int .i64) W A (masksI ms).length (masksI ms)) :
  Calls Tryz.prog 113 #[.int .i64 (mask : Int), .pointer (some ⟨b, 0, none⟩)] W fun e w' => e = .returned (.bool (ms.any (hasAll mask))) ∧ Below W.heap.size W w' := by
 have eg : ∀ args w, (callFunc 115 args).run Tryz.prog w = .ok (.enter 115 args) w := enters_of Tryz.func115 (by kernel_rfl) rfl
 have hC := fun (W' : World) (hB : Below W.heap.size W W') (h1 : W'.cell? ⟨W.heap.size, 0, none⟩ = some (.int .i64 (mask : Int))) =>
  containsFunc_int (fun x => hasAll mask x.toNat) 115 #[.pointer (some ⟨W.heap.size, 0, none⟩)] A c (masksI ms) W' eg (Kd.C_below hr hB)
   (fun W2 x hx hb => by
    obtain ⟨m, hm', rfl⟩ := List.mem_map.1 hx
    exact (votesBy_fn2 mask m _ hm (h2 m hm') W2 ((hb.cell (World.block_lt_of_cell? W' _ h1)).trans h1)).mono fun _ _ ⟨he, hw⟩ => ⟨by rw [he]; simp, hw ▸ Below.refl _ _⟩)
 have e1 : (masksI ms).any (fun x => hasAll mask x.toNat) = ms.any (hasAll mask) := by
  unfold masksI
  rw [List.any_map]
  rfl
 rw [e1] at hC
 generalize ms.any (hasAll mask) = q at hC
 have HC := Aside0.mk hC
 have hca : ∀ o, (W.alloc o).cell? ⟨b, 0, none⟩ = some (.slice A (masksI ms).length c) := fun o => (World.cell?_alloc_lt _ _ _ (World.block_lt_of_cell? W _ h1)).trans h1
 clear hC hr e1
 go_enter Tryz.func113, Tryz.ntmps113
 go_wp2_with (go_at_call 114; refine (HC.out _ ((Below.refl _ _).alloc (Nat.le_refl _) _) (by simp)).mono ?_; rintro e w' ⟨rfl, hb'⟩)
 go_ret
 exact ⟨rfl, Below.trans ((Below.refl _ _).alloc (Nat.le_refl _) _) (hb'.mono (by simp))⟩
set_option maxRecDepth 100000 in
set_option maxHeartbeats 4000000 in
theorem votesBy_any (n : Nat) (hn : n ≤ 9) (A : Option Addr) (c : Nat) (sets : List (List Int)) (ms : List Nat) (w : World)
  (hr : Kd.C (Kd.slice 3 (Kd.int .i64)) w A sets.length sets) (hl : sets.length ≤ 600) (hml : ms.length = sets.length)
  (hb63 : ∀ m ∈ ms, m < 2 ^ 63)
  (hm : ∀ i, i < sets.length → ∃ k, impl_maskOf.f k (sets.getD i []) = some ((ms.getD i 0 : Nat) : Int)) :
  Calls Tryz.prog 76 #[.int .i64 (n : Int), .slice A sets.length c] w fun e w' => ∃ v : Value, e = .returned (.agg #[.int .i64 (n : Int), v]) ∧ Kd.R Kd.bool 4 w' w.heap.size (fun _ => True) v ((List.range (2 ^ n)).map fun mask => ms.any (hasAll mask)) ∧ Below w.heap.size w w' := by
 have hu68 := Tryz.underlying68
 have HR := Aside0.mk hr
 have HM := Aside0.mk hm
 have HL := Aside0.mk hl
 have H63 := Aside0.mk hb63
 have HML := Aside0.mk hml
 clear hr hm hb63
 go_enter Tryz.func76, Tryz.ntmps76
 go_wp2
 go_loopg [7, 11] sets.length (fun gg _ s11 wr => ∃ kk : Nat, kk ≤ sets.length ∧ sets.length - kk ≤ gg ∧ s11 = .int .i64 kk ∧ ∃ v : Value, Aside0 (Below w.heap.size w wr) ∧ Aside0 (VBox (w.heap.size + 1 + 1) v wr) ∧ Aside0 (Kd.R (Kd.int .i64) 3 wr w.heap.size (fun k => k ≠ w.heap.size ∧ k ≠ w.heap.size + 1 + 1) v (masksI (ms.take kk))) ∧ Aside0 (VRes w.heap.size wr))
 case atStart =>
  refine ⟨0, Nat.zero_le _, by omega, rfl, _, ⟨((Below.refl _ _).alloc (Nat.le_refl _) _ |>.alloc (by simp) _ |>.alloc (by simp; omega) _)⟩, ⟨heap3_2 _ _ _ _⟩, ⟨?_⟩, ⟨heap3_0 _ _ _ _⟩⟩
  refine Kd.R_of_own (xs := []) ⟨rfl, .inr ⟨w.heap.size + 1, 0, #[], rfl, by omega, heap3_1 _ _ _ _, Nat.le_refl _, by simp [maxLen], rfl, rfl⟩⟩ ?_
  intro k hk
  have : w.heap.size + 1 = k := by simpa [Value.ownBlock] using hk
  omega
 case round =>
  obtain ⟨kk, hkk, hg, rfl, v, BW, HV, HO, HZ⟩ := hrel
  by_cases hlt : kk < sets.length
  ·have hltz : (kk : Int) < (sets.length : Int) := by omega
   have h0z : (0 : Int) ≤ (kk : Int) := by omega
   have hc1 : wr.cell? ⟨w.heap.size + 1 + 1, 0, none⟩ = some v := (blk_cell HV.out 0).trans rfl
   have hf1 := blk_frozen HV.out 0
   obtain ⟨ad, A0, c0, e, hcell, hl0, hC0⟩ := at_L1 (Kd.C_below HR.out BW.out) (kk : Int) h0z hltz
   obtain ⟨k0, hk0⟩ := HM.out kk hlt
   have hrd : rd_L1 sets (kk : Int) = sets.getD kk [] := by simp [rd_L1]
   rw [hrd] at hcell hl0 hC0
   rw [Int.toNat_natCast] at hcell
   have hmk : ms.take (kk + 1) = ms.take kk ++ [ms.getD kk 0] := by rw [List.take_succ_eq_append_getElem (by omega)]; simp [List.getD_eq_getElem?_getD, hml, hlt]
   generalize hmm : ms.getD kk 0 = m at hk0 hmk
   have HMK := Aside0.mk hmk
   clear hmk hmm
   generalize hs : sets.getD kk [] = st at hcell hl0 hC0 hk0
   subst e
   have HC0 := Aside0.mk hC0
   have HK0 := Aside0.mk hk0
   have HL0 := Aside0.mk hl0
   clear hs hrd hC0 hk0 hl0
   go_wp2
   have hvb : wr.heap[w.heap.size + 1 + 1]? = some (.cells #[v] 36 (0, 0)) := HV.out
   have HVB := Aside0.mk hvb
   have hne : some (w.heap.size + 1 + 1) ≠ v.ownBlock := Kd.R_away HO.out (fun k hk => hk.2)
   have HNE := Aside0.mk hne
   have hlt2 : w.heap.size + 1 + 1 < wr.heap.size := blk_lt hvb
   have hca : ∀ d o, ((wr.drewN d).alloc o).cell? ⟨w.heap.size + 1 + 1, 0, none⟩ = some v := fun d o => (blk_cell (blk_alloc (blk_drewN hvb d) o) 0).trans rfl
   clear hvb hne
   go_region_law (first | (refine Kd.R_append_step (Kd.int .i64) (w0 := w) w.heap.size (by rfl) (.tmp 15) (.tmp 18) 36 3 (.int .i64 0) 8 rfl Tryz.underlying36 infoI rfl (by decide) (by omega) v (masksI (ms.take kk)) (m : Int) [.int .i64 (m : Int)] (fun k => k ≠ w.heap.size ∧ k ≠ w.heap.size + 1 + 1) (fun _ => False) rfl rfl rfl (fun _ hk => hk.elim) (fun k hk => ?aF) ?aO ?aB ?aS ?aL ?_; (case aF => (have h1 := BW.out.size; have h2 := blk_lt HVB.out; simp at hk; omega)); (case aO => exact (by (with_reducible repeat (first | exact HO.out | apply Kd.R_alloc | apply Kd.R_drewN | apply Kd.R_drew)))); (case aB => exact (by (with_reducible repeat (first | exact BW.out | apply below_alloc | apply pw_below_drewN | apply below_drew)))); (case aS => exact BW.out.size); (case aL => (simp [masksI]; omega)); intro v1 w1 ho hb hg hat; obtain ⟨Ao, co, rfl⟩ := Kd.R_slice ho; have hb1 : w1.heap[w.heap.size + 1 + 1]? = some (.cells #[v] 36 (0, 0)) := blk_grown (by (with_reducible repeat (first | exact HVB.out | refine blk_drewN ?_ _ | refine blk_drew ?_ | refine blk_alloc ?_ _))) hg HNE.out; have hb2 : w1.cell? ⟨w.heap.size + 1 + 1, 0, none⟩ = some v := (blk_cell hb1 0).trans rfl; have hb3 := blk_frozen hb1 0; have HO1 := Aside0.mk ho; have HB1 := Aside0.mk hb; have HG1 := Aside0.mk hg; have HV1 := Aside0.mk hb1; clear ho hb hg hat hb1) | (go_simp; go_at_call 111; refine (impl_maskOf.calls _ _ _ st _ _ (by (with_reducible repeat (first | exact HC0.out | apply Kd.C_alloc | apply Kd.C_drewN | apply Kd.C_drew))) HL0.out HK0.out).mono ?_; rintro e w' ⟨rfl, ⟨nd, rfl⟩⟩))
   all_goals
    go_wp2
    go_roundg (sets.length - (kk + 1))
    case measure => omega
    case rel =>
     have e1 : masksI (ms.take kk) ++ [(m : Int)] = masksI (ms.take (kk + 1)) := by rw [HMK.out]; simp [masksI]
     have e2 : (masksI (ms.take kk)).length + 1 = (masksI (ms.take kk) ++ [(m : Int)]).length := by simp
     rw [e2]
     have hlt1 : w.heap.size < wr.heap.size := by omega
     refine ⟨kk + 1, by omega, by omega, by go_num, _, ⟨HB1.out.setCell (by simp; omega) _⟩, ⟨blk_set HV1.out 0 _⟩, ⟨?_⟩, ⟨?_⟩⟩
     ·rw [← e1]
      exact Kd.R_far (p := ⟨w.heap.size + 1 + 1, 0, none⟩) HO1.out (fun k hk => hk.2) _
     ·exact blk_far (blk_grown (blk_drewN HZ.out _) HG1.out (Kd.R_away HO.out (fun k hk => hk.1))) (by simp; omega) _
  ·have hltz : ¬ (kk : Int) < (sets.length : Int) := by omega
   have : kk = sets.length := by omega
   subst this
   have eg : ∀ args w, (callFunc 113 args).run Tryz.prog w = .ok (.enter 113 args) w := enters_of Tryz.func113 (by kernel_rfl) rfl
   have etk : ms.take sets.length = ms := List.take_of_length_le (by omega)
   obtain ⟨Av, cv, ev, hlv, hCv⟩ := Kd.R_reads HO.out
   rw [etk] at ev hlv hCv
   have hcv : wr.cell? ⟨w.heap.size + 1 + 1, 0, none⟩ = some (.slice Av (masksI ms).length cv) := (blk_cell HV.out 0).trans (by rw [ev]; rfl)
   have hvo := votesOf_any n hn (fun mask => ms.any (hasAll mask)) 113 #[.pointer (some ⟨w.heap.size + 1 + 1, 0, none⟩)] wr eg
    (fun W m hm hb => votesBy_fn1 m _ (Nat.lt_of_lt_of_le hm (Nat.le_trans (pow_le9 hn) (by decide))) ms H63.out Av cv W ((hb.cell (World.block_lt_of_cell? wr _ hcv)).trans hcv) (Kd.C_below hCv hb))
   have HVO := Aside0.mk hvo
   have hz : wr.heap[w.heap.size]? = some (.cells #[.int .i64 0, .slice none 0 0] 68 (0, 0)) := HZ.out
   have HZ' := Aside0.mk hz
   clear hvo hcv hCv hlv ev etk eg hz
   go_wp2_with (go_at_call 112; refine HVO.out.mono ?_; rintro e w1 ⟨v1, rfl, hR1, hb1⟩; obtain ⟨A1, c1, rfl⟩ := Kd.R_slice hR1; have hz1 := blk_below HZ'.out hb1; have hz2 : w1.cell? ⟨w.heap.size, 0, none⟩ = some (.int .i64 0) := (blk_cell hz1 0).trans rfl; have hz3 : w1.cell? ⟨w.heap.size, 1, none⟩ = some (.slice none 0 0) := (blk_cell hz1 1).trans rfl; have hf2 := blk_frozen hz1 0; have hf3 := blk_frozen hz1 1; have HR1 := Aside0.mk hR1; have HB1 := Aside0.mk hb1; have HZ1 := Aside0.mk hz1; clear hR1 hb1 hz1)
   refine bodyPost_ret (results_cell_row rfl _ _ w.heap.size 68 #[.int .i64 (n : Int), .slice A1 _ c1] (0, 0) _ rfl (blk_set (blk_set HZ1.out 0 _) 1 _) Tryz.underlying68 rfl (by kernel_rfl)) rfl ?_
   have hlt0 : w.heap.size < wr.heap.size := blk_lt HZ'.out
   refine ⟨_, by simp, Kd.R_lower (Kd.R_far (p := ⟨w.heap.size, 1, none⟩) (Kd.R_far (p := ⟨w.heap.size, 0, none⟩) (Kd.R_newB HR1.out HZ'.out) (fun k hk => hk.2) _) (fun k hk => hk.2) _ |> fun h => Kd.R_mono h (fun _ _ => trivial)) (Nat.le_of_lt hlt0), ?_⟩
   exact ((Below.trans BW.out (HB1.out.mono BW.out.size)).setCell (Nat.le_refl _) _).setCell (Nat.le_refl _) _
end Go.Proofs.YtnncjnjfdhbddaaGreat.Z
namespace Go.Proofs.YtnncjnjfdhbddaaGreat.Z
open Go.RowKit Go.Proofs.YtnncjnjfdhbddaaGreatW.PrintWords Go.Proofs.YtnncjnjfdhbddaaGreatW.PrintLast Go.Proofs.YtnncjnjfdhbddaaGreatW.PrintMore
attribute [local go_sem] max2_int min2_int max_two min_two max_three min_three max_four min_four
set_option linter.unusedVariables false
set_option linter.unusedSimpArgs false
def maskN (s : List Int) : Nat := s.foldl (fun m x => m ||| 2 ^ x.toNat) 0
def inSmall (s : List Int) : Bool := s.all (fun x => decide (0 ≤ x ∧ x < 9))
theorem or_lt512 (a b : Nat) (ha : a < 512) (hb : b < 512) : a ||| b < 512 := Nat.or_lt_two_pow (n := 9) ha hb
theorem pow_lt512 {x : Int} (h : 0 ≤ x ∧ x < 9) : 2 ^ x.toNat < 512 := by
 have : 2 ^ x.toNat ≤ 2 ^ 8 := Nat.pow_le_pow_right (by decide) (by omega)
 omega
theorem maskFold_lt : ∀ (s : List Int) (m : Nat), inSmall s = true → m < 512 → s.foldl (fun m x => m ||| 2 ^ x.toNat) m < 512
 | [], m, _, hm => hm
 | x :: s, m, h, hm => by
  simp only [inSmall, List.all_cons, Bool.and_eq_true, decide_eq_true_eq] at h
  exact maskFold_lt s _ h.2 (or_lt512 _ _ hm (pow_lt512 h.1))
theorem maskN_lt (s : List Int) (h : inSmall s = true) : maskN s < 512 := maskFold_lt s 0 h (by decide)
theorem maskOf_l0 (s : List Int) (hs : s.length ≤ 9223372036854775807) (h : inSmall s = true) : ∀ (d k i m : Nat), s.length - i = d → i ≤ s.length → d < k → m < 512 →
  impl_maskOf.l0 k (m : Int) s (s.length : Int) (i : Int) = some (((s.drop i).foldl (fun m x => m ||| 2 ^ x.toNat) m : Nat) : Int) := by
 intro d
 induction d with
 | zero =>
  intro k i m hd hi hk hm
  obtain ⟨k, rfl⟩ : ∃ m, k = m + 1 := ⟨k - 1, by omega⟩
  simp only [impl_maskOf.l0]
  rw [if_neg (by omega), List.drop_of_length_le (by omega)]
  rfl
 | succ d ih =>
  intro k i m hd hi hk hm
  obtain ⟨k, rfl⟩ : ∃ m, k = m + 1 := ⟨k - 1, by omega⟩
  have hlt : i < s.length := by omega
  have hx : 0 ≤ s[i] ∧ s[i] < 9 := by
   have := List.all_eq_true.1 h s[i] (List.getElem_mem hlt)
   simpa using this
  have e1 : rd s (i : Int) = s[i] := by simp [rd, hlt]
  simp only [impl_maskOf.l0]
  rw [if_pos (by omega), if_pos (by omega), if_pos (by omega), e1, if_pos hx.1, List.drop_eq_getElem_cons hlt]
  have e2 : shl .i64 1 s[i] = ((2 ^ s[i].toNat : Nat) : Int) := by
   have := shl_nat (n := s[i].toNat) (by omega)
   rwa [Int.toNat_of_nonneg hx.1] at this
  have hp := pow_lt512 hx
  rw [e2, or_nat m _ (by omega) (by omega), show wrap64 ((i : Int) + 1) = ((i + 1 : Nat) : Int) by unfold wrap64; omega]
  exact ih k (i + 1) _ (by omega) (by omega) (by omega) (or_lt512 _ _ hm hp)
theorem maskOf_f (s : List Int) (hs : s.length ≤ 9223372036854775807) (h : inSmall s = true) : impl_maskOf.f (s.length + 1) s = some ((maskN s : Nat) : Int) :=
 maskOf_l0 s hs h s.length (s.length + 1) 0 0 (by omega) (by omega) (by omega) (by decide)
def tableOf (n : Nat) (sets : List (List Int)) : List Bool := (List.range (2 ^ n)).map fun m => (sets.map maskN).any (hasAll m)
def byOk (a0 : Int) (l1 : List (List Int)) : Bool := decide (0 ≤ a0 ∧ a0 ≤ 9 ∧ l1.length ≤ 600) && l1.all inSmall
def impl_votesBy.f (a0 : Int) (l1 : List (List Int)) : Option (Int × List Bool) := if byOk a0 l1 = true then some (a0, tableOf a0.toNat l1) else none
theorem impl_votesBy.calls (a0 : Int) (A1 : Option Addr) (c1 : Nat) (l1 : List (List Int)) (r1 : Int) (r2 : List Bool) (w : World) (hr1 : Kd.C (Kd.slice 3 (Kd.int .i64)) w A1 l1.length l1) (hc1 : l1.length ≤ c1) (h : impl_votesBy.f a0 l1 = some (r1, r2)) :
  Calls Tryz.prog 76 #[.int .i64 a0, .slice A1 l1.length c1] w fun e w' => ∃ v1_ : Value, e = .returned (.agg #[.int .i64 r1, v1_]) ∧ Kd.R Kd.bool 4 w' w.heap.size (fun _ => True) v1_ r2 ∧ Below w.heap.size w w' := by
 unfold impl_votesBy.f byOk at h
 split at h
 ·rename_i h1
  simp only [Bool.and_eq_true, decide_eq_true_eq] at h1
  obtain ⟨⟨h2, h3, h4⟩, h5⟩ := h1
  simp only [Option.some.injEq, Prod.mk.injEq] at h
  obtain ⟨rfl, rfl⟩ := h
  obtain ⟨n, rfl⟩ := Int.eq_ofNat_of_zero_le h2
  rw [Int.toNat_natCast]
  refine votesBy_any n (by omega) A1 c1 l1 (l1.map maskN) w hr1 h4 (by simp) ?_ ?_
  ·intro m hm
   obtain ⟨s, hs, rfl⟩ := List.mem_map.1 hm
   have := maskN_lt s (List.all_eq_true.1 h5 s hs)
   omega
  ·intro i hi
   have hmem : l1.getD i [] ∈ l1 := by simp [List.getD_eq_getElem?_getD, hi]
   obtain ⟨ad, A0, c0, _, _, _, hC0⟩ := at_L1 hr1 (i : Int) (by omega) (by omega)
   rw [show rd_L1 l1 (i : Int) = l1.getD i [] by simp [rd_L1]] at hC0
   refine ⟨_, (maskOf_f _ hC0.2.1 (List.all_eq_true.1 h5 _ hmem)).trans ?_⟩
   simp [List.getD_eq_getElem?_getD, hi]
 ·cases h
end Go.Proofs.YtnncjnjfdhbddaaGreat.Z
namespace Go.Proofs.YtnncjnjfdhbddaaGreat.Z
open Go.RowKit Go.Proofs.YtnncjnjfdhbddaaGreatW.PrintWords Go.Proofs.YtnncjnjfdhbddaaGreatW.PrintLast Go.Proofs.YtnncjnjfdhbddaaGreatW.PrintMore
attribute [local go_sem] max2_int min2_int max_two min_two max_three min_three max_four min_four
set_option linter.unusedVariables false
set_option linter.unusedSimpArgs false
def impl_Game_votes.f (a0_0 : Int) (l0_1 : List (List Int)) : Option (Int × List Bool) := (impl_votesBy.f a0_0 l0_1).bind fun bt147 => (some (bt147.1, bt147.2))
set_option maxHeartbeats 8000000 in
set_option maxRecDepth 100000 in
theorem impl_Game_votes.calls (a0_0 : Int) (A0_1 : Option Addr) (c0_1 : Nat) (l0_1 : List (List Int)) (r1 : Int) (r2 : List Bool) (w : World) (hr0_1 : Kd.C (Kd.slice 3 (Kd.int .i64)) w A0_1 l0_1.length l0_1) (hc0_1 : l0_1.length ≤ c0_1) (h : impl_Game_votes.f a0_0 l0_1 = some (r1, r2)) :
  Calls Tryz.prog 48 #[.agg #[.int .i64 a0_0, .slice A0_1 l0_1.length c0_1]] w fun e w' => ∃ v1_ : Value, e = .returned (.agg #[.int .i64 r1, v1_]) ∧ Kd.R Kd.bool 4 w' w.heap.size (fun _ => True) v1_ r2 ∧ Below w.heap.size w w' := by
 have hu28 := Tryz.underlying28
 have hu68 := Tryz.underlying68
 have HR0_1 := Aside0.mk hr0_1
 have HC0_1 := Aside0.mk hc0_1
 clear hr0_1 hc0_1
 have HB := Aside0.mk (Below.refl w.heap.size w)
 have H : ((impl_votesBy.f a0_0 l0_1).bind fun bt147 => (some (bt147.1, bt147.2))) = some (r1, r2) := h
 clear h
 replace H := Option.bind_eq_some_iff.mp H
 obtain ⟨⟨t147, t148⟩, A20, H⟩ := H
 replace H : (some (t147, t148)) = some (r1, r2) := H
 have A2 := Aside0.mk A20
 clear A20
 simp only [Option.some.injEq, Prod.mk.injEq] at H
 obtain ⟨rfl, rfl⟩ := H
 go_enter Tryz.func48, Tryz.ntmps48
 go_wp2_with (first | ((with_reducible refine gate_dst (N := 1) rfl ?_); refine box_event ?hg (N := 1) ?hd (cs := #[.int .i64 a0_0, .slice A0_1 l0_1.length c0_1]) (t := 28) ?hr ?_; (case hd => rfl); (case hg => rfl); (case hr => first | (go_simp; done) | (go_simp; rfl)); intro gb145 hg w3 hbox hb; have n0_ := Aside0.mk (below_step (by repeat (first | (with_reducible first | exact HB.out | apply below_alloc | apply pw_below_drewN | apply below_drew1) | exact HB.out)) hb); have n1_ := Aside0.mk (hbox); have n2_ := Aside0.mk ((by rw [hg]; exact (below_size (by repeat (first | (with_reducible first | exact HB.out | apply below_alloc | apply pw_below_drewN | apply below_drew1) | exact HB.out))) : w.heap.size ≤ gb145)); have n3_ := Aside0.mk ((by rw [hg]; exact (below_size (by repeat (first | (with_reducible first | exact HB.out | apply below_alloc | apply pw_below_drewN | apply below_drew1) | exact HB.out))) : w.heap.size ≤ gb145)); clear HB; have HB := n0_; have BK145 := n1_; have GW145 := n2_; have GE145 := n3_; clear n0_ n1_ n2_ n3_; clear hb hbox hg) | ((with_reducible refine gate_dst (N := 2) rfl ?_); refine box_event ?hg (N := 2) ?hd (cs := #[.int .i64 0, .slice none 0 0]) (t := 68) ?hr ?_; (case hd => rfl); (case hg => rfl); (case hr => first | (go_simp; done) | (go_simp; rfl)); intro gb146 hg w4 hbox hb; have n0_ := Aside0.mk (blk_below (g := gb145) (o := .cells #[.int .i64 a0_0, .slice A0_1 l0_1.length c0_1] 28 (0, 0)) (by (with_reducible repeat (first | refine blk_drewN ?_ _ | refine blk_drew ?_ | refine blk_alloc ?_ _)); exact BK145.out) hb); have n1_ := Aside0.mk (below_step (by repeat (first | (with_reducible first | exact HB.out | apply below_alloc | apply pw_below_drewN | apply below_drew1 | refine below_set ?_ GE145.out) | exact HB.out)) hb); have n2_ := Aside0.mk (hbox); have n3_ := Aside0.mk ((by rw [hg]; exact (below_size (by repeat (first | (with_reducible first | exact HB.out | apply below_alloc | apply pw_below_drewN | apply below_drew1 | refine below_set ?_ GE145.out) | exact HB.out))) : w.heap.size ≤ gb146)); have n4_ := Aside0.mk ((by rw [hg]; exact (below_size (by repeat (first | (with_reducible first | exact HB.out | apply below_alloc | apply pw_below_drewN | apply below_drew1 | refine below_set ?_ GE145.out) | exact HB.out))) : w.heap.size ≤ gb146)); have n5_ := Aside0.mk ((by rw [hg]; exact Nat.ne_of_lt (blk_lt (g := gb145) (o := .cells #[.int .i64 a0_0, .slice A0_1 l0_1.length c0_1] 28 (0, 0)) (by (with_reducible repeat (first | refine blk_drewN ?_ _ | refine blk_drew ?_ | refine blk_alloc ?_ _)); exact BK145.out)) : gb145 ≠ gb146)); have n6_ := Aside0.mk ((by rw [hg]; exact Nat.ne_of_gt (blk_lt (g := gb145) (o := .cells #[.int .i64 a0_0, .slice A0_1 l0_1.length c0_1] 28 (0, 0)) (by (with_reducible repeat (first | refine blk_drewN ?_ _ | refine blk_drew ?_ | refine blk_alloc ?_ _)); exact BK145.out)) : gb146 ≠ gb145)); clear BK145; clear HB; have BK145 := n0_; have HB := n1_; have BK146 := n2_; have GW146 := n3_; have GE146 := n4_; have NB145_146 := n5_; have NB146_145 := n6_; clear n0_ n1_ n2_ n3_ n4_ n5_ n6_; clear hb hbox hg; have hnb5 := NB145_146.out; have hnc5 := NB146_145.out; have hcz6_0 : w4.cell? ⟨gb145, 0, none⟩ = some (.int .i64 a0_0) := (blk_cell BK145.out 0).trans rfl; have hcz6_1 : w4.cell? ⟨gb145, 1, none⟩ = some (.slice A0_1 l0_1.length c0_1) := (blk_cell BK145.out 1).trans rfl; have hfz6_0 := blk_frozen BK145.out 0; have hfz6_1 := blk_frozen BK145.out 1) | ((with_reducible refine gate_callee (f := 76) rfl ?_); refine goesL_ (some 7) rfl rfl Tryz.func76 (by kernel_rfl) rfl #[.int .i64 a0_0, .slice A0_1 l0_1.length c0_1] rfl (by (try simp only [List.map_toArray, List.map_cons, List.map_nil]); first | done | rfl | (simp only [List.length_drop, List.length_take]; rfl)) ?_; (with_reducible refine (impl_votesBy.calls a0_0 _ _ l0_1 t147 t148 _ ?side1 ?side2 A2.out).mono ?_); (case side1 => repeat (first | exact (Kd.C_below HR0_1.out HB.out) | (with_reducible refine Kd.C_alloc ?_ _) | (with_reducible refine Kd.C_drewN ?_ _) | (with_reducible refine Kd.C_drew ?_))); (case side2 => exact HC0_1.out); rintro e w7 ⟨v149, rfl, ho0, hb⟩; refine ⟨_, rfl, ?_⟩; have n0_ := Aside0.mk (Kd.R_lower ho0 (below_size (by repeat (first | (with_reducible first | exact HB.out | apply below_alloc | apply pw_below_drewN | apply below_drew1 | refine below_set ?_ GE145.out | refine below_set ?_ GE146.out) | exact HB.out)))); have n1_ := Aside0.mk (blk_below (g := gb145) (o := .cells #[.int .i64 a0_0, .slice A0_1 l0_1.length c0_1] 28 (0, 0)) (by (with_reducible repeat (first | refine blk_drewN ?_ _ | refine blk_drew ?_ | refine blk_alloc ?_ _)); exact BK145.out) hb); have n2_ := Aside0.mk (blk_below (g := gb146) (o := .cells #[.int .i64 0, .slice none 0 0] 68 (0, 0)) (by (with_reducible repeat (first | refine blk_drewN ?_ _ | refine blk_drew ?_ | refine blk_alloc ?_ _)); exact BK146.out) hb); have n3_ := Aside0.mk (below_step (by repeat (first | (with_reducible first | exact HB.out | apply below_alloc | apply pw_below_drewN | apply below_drew1 | refine below_set ?_ GE145.out | refine below_set ?_ GE146.out) | exact HB.out)) hb); clear BK145; clear BK146; clear HB; have HO150 := n0_; have BK145 := n1_; have BK146 := n2_; have HB := n3_; clear n0_ n1_ n2_ n3_; (try clear hb); (try clear hb2); (try clear hk); (try clear hi); (try clear ho0); have hcz8_0 : w7.cell? ⟨gb146, 0, none⟩ = some (.int .i64 0) := (blk_cell BK146.out 0).trans rfl; have hcz8_1 : w7.cell? ⟨gb146, 1, none⟩ = some (.slice none 0 0) := (blk_cell BK146.out 1).trans rfl; have hfz8_0 := blk_frozen BK146.out 0; have hfz8_1 := blk_frozen BK146.out 1; obtain ⟨Ao9, co9, eo9⟩ := Kd.R_slice HO150.out; subst eo9))
 refine bodyPost_ret (results_cell_row rfl _ _ gb146 68 #[.int .i64 t147, .slice Ao9 t148.length co9] (0, 0) _ rfl (by (with_reducible repeat (first | refine blk_drewN ?_ _ | refine blk_drew ?_ | refine blk_alloc ?_ _)); refine blk_put (cs := #[.int .i64 t147, .slice none 0 0]) ?_ 1 _ rfl; (with_reducible repeat (first | refine blk_drewN ?_ _ | refine blk_drew ?_ | refine blk_alloc ?_ _)); refine blk_put (cs := #[.int .i64 0, .slice none 0 0]) ?_ 0 _ rfl; (with_reducible repeat (first | refine blk_drewN ?_ _ | refine blk_drew ?_ | refine blk_alloc ?_ _)); exact BK146.out) Tryz.underlying68 rfl (by kernel_rfl)) rfl ?_
 exact ⟨_, by first | rfl | (simp [errW_none, errW_some] <;> rfl) | (simp [*, errW_none, errW_some] <;> rfl), by (with_reducible repeat (first | apply Kd.R_alloc | apply Kd.R_drewN | apply Kd.R_drew)); exact Kd.R_mono (Kd.R_far (p := ⟨gb146, 1, none⟩) (Kd.R_far (p := ⟨gb146, 0, none⟩) (Kd.R_types HO150.out BK146.out (by decide)) (fun _ hk => hk.2) (.int .i64 t147)) (fun _ hk => hk.2) (.slice Ao9 t148.length co9)) (fun _ hk => trivial), by repeat (first | (with_reducible first | exact HB.out | apply below_alloc | apply pw_below_drewN | apply below_drew1 | refine below_set ?_ GE145.out | refine below_set ?_ GE146.out) | exact HB.out)⟩
end Go.Proofs.YtnncjnjfdhbddaaGreat.Z
namespace Go.Proofs.YtnncjnjfdhbddaaGreat.Z
open Go.RowKit Go.Proofs.YtnncjnjfdhbddaaGreatW.PrintWords Go.Proofs.YtnncjnjfdhbddaaGreatW.PrintLast Go.Proofs.YtnncjnjfdhbddaaGreatW.PrintMore
attribute [local go_sem] max2_int min2_int max_two min_two max_three min_three max_four min_four
set_option linter.unusedVariables false
set_option linter.unusedSimpArgs false
def toldV (n : Nat) (wins : List Bool) (c : S86) : S86 :=
 if c.f0 = 0 then ⟨0, c.f1, oneB (wins.getD c.f1.toNat false)⟩
 else if c.f0 = 1 then ⟨1, ((countW wins : Nat) : Int), 0⟩
 else if c.f0 = 2 then ⟨2, c.f1, oneB (!(wins.getD (2 ^ n - 1 - 2 ^ c.f1.toNat) false))⟩
 else if c.f0 = 3 then ⟨3, c.f1, (swingsL n wins).getD c.f1.toNat 0⟩
 else if c.f0 = 4 then ⟨4, oneB (properB n wins), 0⟩
 else ⟨5, oneB (strongB n wins), 0⟩
theorem inI_of {x lo hi : Int} (h : inI x lo hi = true) : lo ≤ x ∧ x ≤ hi := of_decide_eq_true h
set_option maxHeartbeats 1000000 in
theorem told_any (n : Nat) (hn : n ≤ 4) (wins : List Bool) (hw : wins.length = 2 ^ n) (x : S86) (hx : clueB (n : Int) x = true) (A : Option Addr) (c : Nat) (w : World) (hr : Kd.C Kd.bool w A wins.length wins) (hc : wins.length ≤ c) :
  Calls Tryz.prog 90 #[.agg #[.int .i64 (n : Int), .slice A wins.length c], .int .i64 x.f0, .int .i64 x.f1] w fun e w' => e = .returned (.agg #[.int .i64 (toldV n wins x).f0, .int .i64 (toldV n wins x).f1, .int .i64 (toldV n wins x).f2]) ∧ Below w.heap.size w w' := by
 have h16 : 2 ^ n ≤ 16 := Nat.le_trans (Nat.pow_le_pow_right (by decide) hn) (by decide)
 obtain ⟨k, a, b⟩ := x
 unfold clueB at hx
 unfold toldV
 simp only at hx ⊢
 by_cases h0 : k = 0
 ·subst h0
  simp only [if_true, Bool.and_eq_true] at hx ⊢
  have h1 := inI_of hx.1
  obtain ⟨a, rfl⟩ := Int.eq_ofNat_of_zero_le h1.1
  rw [Int.toNat_natCast]
  exact told_0 (n : Int) A c wins a (by have := h1.2; rw [Int.toNat_natCast] at this; rw [hw]; have e : ((2 : Int) ^ n) = ((2 ^ n : Nat) : Int) := (by simp); omega) w hr hc
 by_cases h1 : k = 1
 ·subst h1
  simp only [show ¬ (1 : Int) = 0 by decide, if_true, if_false] at hx ⊢
  exact told_1 (n : Int) A c wins.length a _ w (fun W hb => impl_votes_countWins.calls _ (n : Int) A c wins _ W (Kd.C_below hr hb) hc (countWins_f (n : Int) wins (by omega)))
 by_cases h2 : k = 2
 ·subst h2
  simp only [show ¬ (2 : Int) = 0 by decide, show ¬ (2 : Int) = 1 by decide, if_true, if_false, Bool.and_eq_true] at hx ⊢
  have h1 := inI_of hx.1
  obtain ⟨a, rfl⟩ := Int.eq_ofNat_of_zero_le h1.1
  rw [Int.toNat_natCast]
  have ha : a < n := by omega
  have hp : 2 ^ a < 2 ^ n := Nat.pow_lt_pow_right (by decide) ha
  exact told_2 n A c wins a (2 ^ n - 1 - 2 ^ a) ((2 ^ n - 1 : Nat) : Int) ((2 ^ a : Nat) : Int) (by rw [hw]; exact Nat.lt_of_le_of_lt (Nat.sub_le _ _) (by have := Nat.two_pow_pos n; omega)) w hr (by omega) (wrap_pow (by omega) rfl) (anti_f n hn _ hp) (fun W hb => impl_votes_all.calls (n : Int) A c wins _ W (Kd.C_below hr hb) hc (all_f n hn wins))
 by_cases h3 : k = 3
 ·subst h3
  simp only [show ¬ (3 : Int) = 0 by decide, show ¬ (3 : Int) = 1 by decide, show ¬ (3 : Int) = 2 by decide, if_true, if_false, Bool.and_eq_true] at hx ⊢
  have h1 := inI_of hx.1
  obtain ⟨a, rfl⟩ := Int.eq_ofNat_of_zero_le h1.1
  rw [Int.toNat_natCast]
  obtain ⟨f, hf⟩ := swings_f n hn wins hw
  exact told_3 (n : Int) A c wins.length a (swingsL n wins) (by simp [swingsL]; omega) w (fun W hb => impl_votes_swings.calls f (n : Int) A c wins _ W (Kd.C_below hr hb) hc hf)
 by_cases h4 : k = 4
 ·subst h4
  simp only [show ¬ (4 : Int) = 0 by decide, show ¬ (4 : Int) = 1 by decide, show ¬ (4 : Int) = 2 by decide, show ¬ (4 : Int) = 3 by decide, if_true, if_false] at hx ⊢
  exact told_4 (n : Int) A c wins.length a _ w (fun W hb => impl_votes_isProper.calls _ (n : Int) A c wins _ W (Kd.C_below hr hb) hc (proper_f n hn wins hw))
 by_cases h5 : k = 5
 ·subst h5
  simp only [show ¬ (5 : Int) = 0 by decide, show ¬ (5 : Int) = 1 by decide, show ¬ (5 : Int) = 2 by decide, show ¬ (5 : Int) = 3 by decide, show ¬ (5 : Int) = 4 by decide, if_true, if_false] at hx ⊢
  exact told_5 (n : Int) A c wins.length a _ w (fun W hb => impl_votes_isStrong.calls _ (n : Int) A c wins _ W (Kd.C_below hr hb) hc (strong_f n hn wins hw))
 simp [h0, h1, h2, h3, h4, h5] at hx
end Go.Proofs.YtnncjnjfdhbddaaGreat.Z
namespace Go.Proofs.YtnncjnjfdhbddaaGreat.Z
open Go.RowKit Go.Proofs.YtnncjnjfdhbddaaGreatW.PrintWords Go.Proofs.YtnncjnjfdhbddaaGreatW.PrintLast Go.Proofs.YtnncjnjfdhbddaaGreatW.PrintMore
attribute [local go_sem] max2_int min2_int max_two min_two max_three min_three max_four min_four
set_option linter.unusedVariables false
set_option linter.unusedSimpArgs false
def neC (x y : S86) : Bool := !(x.f0 == y.f0) || (!(x.f1 == y.f1) || !(x.f2 == y.f2))
theorem eqA86 (d : Nat) (w : World) (x0 y0 x1 y1 x2 y2 : Int) : (Op.equalIn (d + 2) 86 (.agg #[.int .i64 x0, .int .i64 x1, .int .i64 x2]) (.agg #[.int .i64 y0, .int .i64 y1, .int .i64 y2])).run Tryz.prog w = .ok (x0 == y0 && (x1 == y1 && (x2 == y2))) w := by
 refine eqA_of Tryz.underlying86 (by kernel_rfl) ?_
 refine eqf_cons (by rfl) (by go_simp; rfl) (by go_simp; rfl) (by go_simp) ?_
 refine eqf_cons (by rfl) (by go_simp; rfl) (by go_simp; rfl) (by go_simp) ?_
 exact eqf_last (by rfl) (by go_simp; rfl) (by go_simp; rfl) (by go_simp)
attribute [local go_sem high] eqA86
set_option maxRecDepth 100000 in
set_option maxHeartbeats 4000000 in
theorem solutions_fn11 (n : Nat) (hn : n ≤ 4) (wins : List Bool) (hw : wins.length = 2 ^ n) (x : S86) (hx : clueB (n : Int) x = true) (A : Option Addr) (c b : Nat) (W : World) (hr : Kd.C Kd.bool W A wins.length wins) (hc : wins.length ≤ c)
  (hb : W.heap[b]? = some (.cells #[.int .i64 (n : Int), .slice A wins.length c] 68 (0, 0))) :
  Calls Tryz.prog 89 #[.agg #[.int .i64 x.f0, .int .i64 x.f1, .int .i64 x.f2], .pointer (some ⟨b, 0, none⟩)] W fun e w' => e = .returned (.bool (neC (toldV n wins x) x)) ∧ Below W.heap.size W w' := by
 have hu68 := Tryz.underlying68
 have hu86 := Tryz.underlying86
 have ht := fun W' (hB : Below W.heap.size W W') => told_any n hn wins hw x hx A c W' (Kd.C_below hr hB) hc
 have hlt := blk_lt hb
 have hc0 : ∀ o, (W.alloc o).cell? ⟨b, 0, none⟩ = some (.int .i64 (n : Int)) := fun o => (World.cell?_alloc_lt _ _ _ (by simpa using hlt)).trans ((blk_cell hb 0).trans rfl)
 have hc1 : ∀ o, (W.alloc o).cell? ⟨b, 1, none⟩ = some (.slice A wins.length c) := fun o => (World.cell?_alloc_lt _ _ _ (by simpa using hlt)).trans ((blk_cell hb 1).trans rfl)
 have HB := Aside0.mk hb
 have HT := Aside0.mk ht
 have HLT := Aside0.mk hlt
 unfold neC
 generalize toldV n wins x = y at HT ⊢
 obtain ⟨k, a, d⟩ := x
 obtain ⟨k', a', d'⟩ := y
 simp only at HT ⊢
 clear hb ht hr hlt hx hw
 generalize wins.length = N at *
 go_enter Tryz.func89, Tryz.ntmps89
 go_wp2
 go_region_held3 (fun w' => w'.cell? ⟨b, 0, none⟩ = some (.int .i64 (n : Int)) ∧ w'.cell? ⟨b, 1, none⟩ = some (.slice A N c) ∧ w'.cell? ⟨W.heap.size, 0, none⟩ = some (.int .i64 k) ∧ w'.cell? ⟨W.heap.size, 1, none⟩ = some (.int .i64 a) ∧ w'.cell? ⟨W.heap.size, 2, none⟩ = some (.int .i64 d)) (go_keep)
  (first | (go_at_call 90; refine (HT.out _ (pw_below_drewN ((Below.refl _ _).alloc (Nat.le_refl _) _) _)).mono ?_; rintro e w1 ⟨rfl, hb1⟩; have hz := blk_below (blk_drewN (heap1_0 W _) _) hb1; have hz0 : w1.cell? ⟨W.heap.size, 0, none⟩ = some (.int .i64 k) := (blk_cell hz 0).trans rfl; have hz1 : w1.cell? ⟨W.heap.size, 1, none⟩ = some (.int .i64 a) := (blk_cell hz 1).trans rfl; have hz2 : w1.cell? ⟨W.heap.size, 2, none⟩ = some (.int .i64 d) := (blk_cell hz 2).trans rfl; have hB2 : Below W.heap.size W w1 := Below.trans (pw_below_drewN ((Below.refl _ _).alloc (Nat.le_refl _) _) _) (hb1.mono (by simp)); have hy := blk_below HB.out hB2; have hy0 : w1.cell? ⟨b, 0, none⟩ = some (.int .i64 (n : Int)) := (blk_cell hy 0).trans rfl; have hy1 : w1.cell? ⟨b, 1, none⟩ = some (.slice A N c) := (blk_cell hy 1).trans rfl; have HB2 := Aside0.mk hB2; clear hb1 hz hy hB2))
 all_goals go_wp2
 all_goals go_ret
 all_goals exact ⟨rfl, HB2.out⟩
def offG (n : Nat) (clues : List S86) (g : S28) : Bool := clues.any fun c => neC (toldV n (tableOf n g.f1) c) c
set_option maxRecDepth 100000 in
set_option maxHeartbeats 2000000 in
theorem solutions_fn1 (n : Nat) (hn : n ≤ 4) (clues : List S86) (hcl : ∀ c ∈ clues, clueB (n : Int) c = true) (x : S28) (hx0 : x.f0 = (n : Int)) (hby : byOk (n : Int) x.f1 = true) (A0 : Option Addr) (c0 : Nat) (Ac : Option Addr) (cc b : Nat) (W : World)
  (hr : Kd.C (Kd.slice 3 (Kd.int .i64)) W A0 x.f1.length x.f1) (hc : x.f1.length ≤ c0) (hrc : Kd.C k86 W Ac clues.length clues) (hb : W.heap[b]? = some (.cells #[.slice Ac clues.length cc] 39 (0, 0))) :
  Calls Tryz.prog 87 #[.agg #[.int .i64 x.f0, .slice A0 x.f1.length c0], .pointer (some ⟨b, 0, none⟩)] W fun e w' => e = .returned (.bool (offG n clues x)) ∧ Below W.heap.size W w' := by
 have hu68 := Tryz.underlying68
 have hu28 := Tryz.underlying28
 have hv := fun W' (hB : Below W.heap.size W W') => impl_Game_votes.calls (n : Int) A0 c0 x.f1 (n : Int) (tableOf n x.f1) W' (Kd.C_below hr hB) hc (by simp [impl_Game_votes.f, impl_votesBy.f, hby])
 have hlt := blk_lt hb
 have hlen : (tableOf n x.f1).length = 2 ^ n := by simp [tableOf]
 have eg : ∀ args w, (callFunc 89 args).run Tryz.prog w = .ok (.enter 89 args) w := enters_of Tryz.func89 (by kernel_rfl) rfl
 rw [offG, hx0]
 have hcf := fun (W' : World) (hB : Below W.heap.size W W') (A : Option Addr) (c b' : Nat) (h1 : Kd.C Kd.bool W' A (tableOf n x.f1).length (tableOf n x.f1)) (h2 : (tableOf n x.f1).length ≤ c) (h3 : W'.heap[b']? = some (.cells #[.int .i64 (n : Int), .slice A (tableOf n x.f1).length c] 68 (0, 0))) =>
  containsFunc_cl (fun c => neC (toldV n (tableOf n x.f1) c) c) 89 #[.pointer (some ⟨b', 0, none⟩)] Ac cc clues W' eg (Kd.C_below hrc hB)
   (fun W2 y hy hB2 => solutions_fn11 n hn _ hlen y (hcl y hy) A c b' W2 (Kd.C_below h1 hB2) h2 (blk_below h3 hB2))
 generalize (clues.any fun c => neC (toldV n (tableOf n x.f1) c) c) = q at hcf ⊢
 generalize tableOf n x.f1 = wins at hv hcf hlen
 have HB := Aside0.mk hb
 have HV := Aside0.mk hv
 have HCF := Aside0.mk hcf
 have HLT := Aside0.mk hlt
 clear hv hcf hb hr hrc hcl hby hlt hx0 hlen eg
 generalize x.f1.length = L at *
 generalize clues.length = M at *
 have hca : ∀ o, (W.alloc o).cell? ⟨b, 0, none⟩ = some (.slice Ac M cc) := fun o => (World.cell?_alloc_lt _ _ _ (by simpa using HLT.out)).trans ((blk_cell HB.out 0).trans rfl)
 go_enter Tryz.func87, Tryz.ntmps87
 go_wp2_with (first | (go_at_call 48; refine (HV.out _ ((Below.refl _ _).alloc (Nat.le_refl _) _)).mono ?_; rintro e w1 ⟨v1, rfl, ho, hb1⟩; obtain ⟨A1, c1, rfl, hl1, hC1⟩ := Kd.R_reads ho; have hbw : Below W.heap.size W w1 := Below.trans ((Below.refl _ _).alloc (Nat.le_refl _) _) (hb1.mono (by simp)); have hca1 : ∀ o, (w1.alloc o).cell? ⟨b, 0, none⟩ = some (.slice Ac M cc) := (fun o => (World.cell?_alloc_lt _ _ _ (by have h1 := HLT.out; have h2 := hbw.size; simp only; omega)).trans ((blk_cell (blk_below HB.out hbw) 0).trans rfl)); have HC1 := Aside0.mk hC1; have HBW := Aside0.mk hbw; clear ho hb1 hC1 hbw) | (go_at_call 88; refine (HCF.out _ (HBW.out.alloc HBW.out.size _) A1 c1 w1.heap.size (Kd.C_alloc HC1.out _) hl1 (heap1_0 _ _)).mono ?_; rintro e w2 ⟨rfl, hb2⟩; have HB2 := Aside0.mk hb2; clear hb2))
 go_ret
 exact ⟨rfl, Below.trans (HBW.out.alloc HBW.out.size _) (HB2.out.mono (by have := HBW.out.size; simp; omega))⟩
end Go.Proofs.YtnncjnjfdhbddaaGreat.Z
namespace Go.Proofs.YtnncjnjfdhbddaaGreat.Z
open Go.RowKit Go.Proofs.YtnncjnjfdhbddaaGreatW.PrintWords Go.Proofs.YtnncjnjfdhbddaaGreatW.PrintLast Go.Proofs.YtnncjnjfdhbddaaGreatW.PrintMore
attribute [local go_sem] max2_int min2_int max_two min_two max_three min_three max_four min_four
set_option linter.unusedVariables false
set_option linter.unusedSimpArgs false
section
variable {P : Program} {α : Type}
theorem R_tail (d : Kd α) {e base g n c : Nat} {ok : Nat → Prop} {W : World} {xs : List α} (h : d.R e W base ok (.slice (some ⟨g, 0, none⟩) n c) xs) (off : Nat) (news : List Value) (ho : n * d.sz ≤ off) (hl : off + news.length ≤ c * d.sz) :
  d.R e (W.setCells g off news) base ok (.slice (some ⟨g, 0, none⟩) n c) xs ∧ W.grownBy (W.setCells g off news) (some g) := by
 obtain ⟨hn, hnc, _⟩ := Kd.R_reads' h
 obtain ⟨hok, inner, hown, hr⟩ := h
 rcases hown.2 with ⟨hv, _⟩ | ⟨g', cap', cur, hv, hb, hh, hnc', hcm, hcs, htake⟩
 ·cases hv
 injection hv with ha _ hc
 injection ha with ha
 injection ha with hg
 subst hg; subst hc
 obtain ⟨cur', h3, h4, h5⟩ := setCells_row news off W cur hh (by omega)
 obtain ⟨s1, s2, s3, s4⟩ := setCells_same g news off W
 have hfar : ∀ k', k' ≠ g → (W.setCells g off news).heap[k']? = W.heap[k']? := fun k' hk' => setCells_far news _ k' hk'
 refine ⟨⟨hok, inner, ⟨hown.1, .inr ⟨g, c, cur', by rw [← hn], hb, h3, hnc', hcm, by rw [h4, hcs], ?_⟩⟩, ?_⟩, ⟨s1, s2, s3, by rw [s4]; exact Nat.le_refl _, fun k' _ hk' => hfar k' (fun he => hk' (by rw [he]))⟩⟩
 ·have e1 : xs.length * d.sz ≤ off := hn ▸ ho
  have e2 : xs.length * d.sz ≤ cur.size := by rw [hcs]; exact Nat.mul_le_mul_right _ hnc'
  rw [h5, List.append_assoc, List.take_append_of_le_length (by rw [List.length_take, Array.length_toList]; exact Nat.le_min.2 ⟨e1, e2⟩), List.take_take, Nat.min_eq_left e1]
  exact htake
 ·exact hr.imp_ (fun p q hp => d.M_move (fun k' hk' => hfar k' (fun he => hk'.2 (by simp [Value.ownBlock, he]))) hp)
theorem zeroCells_len (z : Array Value) (n : Nat) : (Builtin.zeroCells z n).toList.length = n * z.size := by simp [Builtin.zeroCells]
theorem run_clear_any (w : World) (t e ty : TypeId) (z : Value) (ht : P.underlying t = some (.slice e)) (hv : ∀ w, (zeroValue e).run P w = .ok z w) (h1 : ∀ u ∈ z.cells, u.oneCell' = true) (hz : 0 < z.cells.size) (b o n c : Nat) (hn : 0 < n)
  (hc : ∀ j, j < n * z.cells.size → (w.cell? ⟨b, o + j, none⟩).isSome = true) (hf : ∀ j, j < n * z.cells.size → w.frozen? ⟨b, o + j, none⟩ = false) :
  (Builtin.clear_ #[t] ty #[.slice (some ⟨b, o, none⟩) n c]).run P w = .ok (.tuple #[]) (w.setCells b o (Builtin.zeroCells z.cells n).toList) := by
 have hst := run_storeCells_cells (P := P) b o (Builtin.zeroCells z.cells n).toList 0 w (by rw [zeroCells_len]; simpa using hc) (by rw [zeroCells_len]; simpa using hf) (by
  intro v hv'
  simp only [Builtin.zeroCells, Array.toList_map, List.mem_map] at hv'
  obtain ⟨i, _, rfl⟩ := hv'
  have hi : i % z.cells.size < z.cells.size := Nat.mod_lt _ hz
  rw [getElem!_pos z.cells _ hi]
  exact h1 _ (Array.getElem_mem hi))
 simp only [Nat.add_zero] at hst
 obtain ⟨m, rfl⟩ : ∃ m, n = m + 1 := ⟨n - 1, by omega⟩
 simp [Builtin.clear_, run_underlying ht, hv, hst]
theorem run_zero {e : TypeId} {z : Value} (hi : (P.info? e).map (·.zero) = some (some z)) (w : World) : (zeroValue e).run P w = .ok z w := by
 obtain ⟨i, hi, hz⟩ := Option.map_eq_some_iff.1 hi
 simp [zeroValue, typeInfo, hi, hz]
theorem R_clear (d : Kd α) {e base g n m c : Nat} {ok : Nat → Prop} {W : World} {xs : List α} (t ty : TypeId) (z : Value) (ht : P.underlying t = some (.slice e)) (hi : (P.info? e).map (·.zero) = some (some z)) (h1 : ∀ u ∈ z.cells, u.oneCell' = true) (hz : z.cells.size = d.sz) (hs : 0 < d.sz)
  (h : d.R e W base ok (.slice (some ⟨g, 0, none⟩) n c) xs) (hm : 0 < m) (hnm : n + m ≤ c) (c2 : Nat) :
  ∃ w1, (Builtin.clear_ #[t] ty #[.slice (some ⟨g, n * d.sz, none⟩) m c2]).run P W = .ok (.tuple #[]) w1 ∧ d.R e w1 base ok (.slice (some ⟨g, 0, none⟩) n c) xs ∧ W.grownBy w1 (some g) := by
 have hb : ∃ cur, W.heap[g]? = some (.cells cur e (0, 0)) ∧ cur.size = c * d.sz := by
  obtain ⟨_, inner, hown, _⟩ := h
  rcases hown.2 with ⟨hv, _⟩ | ⟨g', cap', cur, hv, _, hh, _, _, hcs, _⟩
  ·cases hv
  ·injection hv with ha _ hc
   injection ha with ha
   injection ha with hg
   subst hg; subst hc
   exact ⟨cur, hh, hcs⟩
 obtain ⟨cur, hh, hcs⟩ := hb
 have hle : n * d.sz + m * d.sz ≤ c * d.sz := by rw [← Nat.add_mul]; exact Nat.mul_le_mul_right _ hnm
 have hrun := run_clear_any W t e ty z ht (run_zero hi) h1 (by omega) g (n * d.sz) m c2 hm
  (fun j hj => by rw [hz] at hj; rw [cell_of_row W g _ cur e (0, 0) hh, Array.getElem?_eq_getElem (by omega)]; rfl)
  (fun j _ => blk_frozen hh _)
 obtain ⟨h3, h4⟩ := R_tail d h (n * d.sz) (Builtin.zeroCells z.cells m).toList (Nat.le_refl _) (by rw [zeroCells_len, hz]; exact hle)
 exact ⟨_, hrun, h3, h4⟩
end
section
variable {P : Program} {ops : Array Oper} {rest : List Oper} {o : Oper} {a : Act} {Q : Exit → Act → World → Prop} {α : Type}
theorem R_clear_op (d : Kd α) {W : World} (base : Nat) (hgd : o.guard = none) (x : Operand) (t e : TypeId) (z : Value)
  (ho : o.op = .call { callee := .builtin .clear, args := #[x], argTypes := #[t] })
  (ht : P.underlying t = some (.slice e)) (hi : (P.info? e).map (·.zero) = some (some z)) (h1 : ∀ u ∈ z.cells, u.oneCell' = true) (hz : z.cells.size = d.sz) (hs : 0 < d.sz)
  {g n m c c2 off : Nat} {xs : List α} {ok : Nat → Prop} (hx : a.eval x = .slice (some ⟨g, off, none⟩) m c2) (hoff : off = n * d.sz)
  (HO : d.R e W base ok (.slice (some ⟨g, 0, none⟩) n c) xs) (hm : 0 < m) (hnm : n + m ≤ c)
  (h : ∀ w1, d.R e w1 base ok (.slice (some ⟨g, 0, none⟩) n c) xs → W.grownBy w1 (some g) → wpList P ops Q rest (a.put o.dst (.tuple #[])) w1) : wpList P ops Q (o :: rest) a W := by
 subst hoff
 obtain ⟨w1, hr, h2, h3⟩ := R_clear (P := P) d t o.type z ht hi h1 hz hs HO hm hnm c2
 refine wpList_plain hgd fun K hK => ?_
 unfold Oper.wp execOp
 simp only [ho, resolve, invoke, builtin, Sem.run_bind, Sem.run_pure, Result.andThen_ok, List.map_toArray, List.map_cons, List.map_nil, hx, hr]
 exact hK _ _ (h w1 h2 h3)
end
end Go.Proofs.YtnncjnjfdhbddaaGreat.Z
namespace Go.Proofs.YtnncjnjfdhbddaaGreat.Z
open Go.RowKit Go.Proofs.YtnncjnjfdhbddaaGreatW.PrintWords Go.Proofs.YtnncjnjfdhbddaaGreatW.PrintLast Go.Proofs.YtnncjnjfdhbddaaGreatW.PrintMore
attribute [local go_sem] max2_int min2_int max_two min_two max_three min_three max_four min_four
set_option linter.unusedVariables false
set_option linter.unusedSimpArgs false
section
variable {α : Type}
theorem R_block (d : Kd α) {e base g n c : Nat} {ok : Nat → Prop} {W : World} {xs : List α} (h : d.R e W base ok (.slice (some ⟨g, 0, none⟩) n c) xs) :
  ∃ inner cur, W.heap[g]? = some (.cells cur e (0, 0)) ∧ cur.size = c * d.sz ∧ cur.toList.take (n * d.sz) = inner ∧ Reps (d.M W base fun k => ok k ∧ some k ≠ (Value.slice (some ⟨g, 0, none⟩) n c).ownBlock) d.sz xs inner ∧ n = xs.length ∧ n ≤ c ∧ c ≤ maxLen ∧ base ≤ g := by
 obtain ⟨hn, hnc, _⟩ := Kd.R_reads' h
 obtain ⟨hok, inner, hown, hr⟩ := h
 rcases hown.2 with ⟨hv, _⟩ | ⟨g', cap', cur, hv, hb, hh, hnc', hcm, hcs, htake⟩
 ·cases hv
 injection hv with ha _ hc
 injection ha with ha
 injection ha with hg
 subst hg; subst hc
 exact ⟨inner, cur, hh, hcs, by rw [hn]; exact htake, hr, hn, hnc, hcm, hb⟩
theorem R_move_el (d : Kd α) {e base g n c : Nat} {ok : Nat → Prop} {W : World} {xs : List α} (h : d.R e W base ok (.slice (some ⟨g, 0, none⟩) n c) xs) (i j : Nat) (hi : i < n) (hj : j < n) (seg : List Value) (hs : seg.length = d.sz) (hs0 : 0 < d.sz)
  (hc : ∀ q u, seg[q]? = some u → W.cell? ⟨g, j * d.sz + q, none⟩ = some u) (y : α) (hy : xs[j]? = some y) :
  d.R e (W.setCells g (i * d.sz) seg) base ok (.slice (some ⟨g, 0, none⟩) n c) (xs.set i y) ∧ W.grownBy (W.setCells g (i * d.sz) seg) (some g) := by
 have hok := h.1
 obtain ⟨inner, cur, hh, hcs, htake, hr, hn, hnc, hcm, hb⟩ := R_block d h
 have h1 : i * d.sz + d.sz ≤ n * d.sz := by rw [← Nat.succ_mul]; exact Nat.mul_le_mul_right _ hi
 have h2 : j * d.sz + d.sz ≤ n * d.sz := by rw [← Nat.succ_mul]; exact Nat.mul_le_mul_right _ hj
 have h3 : n * d.sz ≤ c * d.sz := Nat.mul_le_mul_right _ hnc
 obtain ⟨cur', g1, g2, g3⟩ := setCells_row seg (i * d.sz) W cur hh (by omega)
 obtain ⟨s1, s2, s3, s4⟩ := setCells_same g seg (i * d.sz) W
 have hfar : ∀ k', k' ≠ g → (W.setCells g (i * d.sz) seg).heap[k']? = W.heap[k']? := fun k' hk' => setCells_far seg _ k' hk'
 have hil : inner.length = n * d.sz := by rw [hr.1, hn]
 have hseg : seg = (inner.drop (j * d.sz)).take d.sz := by
  apply List.ext_getElem?
  intro q
  rcases Nat.lt_or_ge q d.sz with hq | hq
  ·have e1 := hc q seg[q] (List.getElem?_eq_getElem (by omega))
   rw [cell_of_row W g _ cur e (0, 0) hh, ← Array.getElem?_toList] at e1
   rw [List.getElem?_take, if_pos hq, List.getElem?_drop, ← htake, List.getElem?_take, if_pos (by omega), e1, List.getElem?_eq_getElem (by omega)]
  ·rw [List.getElem?_eq_none (by omega), List.getElem?_eq_none (by rw [List.length_take]; omega)]
 have hx : d.M W base (fun k => ok k ∧ some k ≠ (Value.slice (some ⟨g, 0, none⟩) n c).ownBlock) y seg := hseg ▸ hr.2 j y hy
 refine ⟨⟨hok, inner.take (i * d.sz) ++ seg ++ inner.drop (i * d.sz + seg.length), ⟨?_, .inr ⟨g, c, cur', by rw [List.length_set, ← hn], hb, g1, by rw [List.length_set, ← hn]; exact hnc, hcm, by rw [g2, hcs], ?_⟩⟩, ?_⟩, ⟨s1, s2, s3, by rw [s4]; exact Nat.le_refl _, fun k' _ hk' => hfar k' (fun he => hk' (by rw [he]))⟩⟩
 ·rw [List.length_set, ← hn, List.length_append, List.length_append, List.length_take, List.length_drop, hs]
  omega
 ·rw [List.length_set, ← hn, g3, ← htake]
  have e1 : (cur.toList.take (n * d.sz)).take (i * d.sz) = cur.toList.take (i * d.sz) := by rw [List.take_take, Nat.min_eq_left (by omega)]
  rw [e1, List.take_append, List.length_append, List.length_take, Array.length_toList, Nat.min_eq_left (by omega), List.take_of_length_le (by rw [List.length_append, List.length_take, Array.length_toList]; omega), hs, List.drop_take]
 ·have := Kd.reps_set hr (show i < xs.length by omega) hx hs
  exact this.imp_ (fun p q hp => d.M_move (fun k' hk' => hfar k' (fun he => hk'.2 (by simp [Value.ownBlock, he]))) hp)
end
theorem gm_at {W : World} {base g n c : Nat} {xs : List S28} (h : Kd.R k28 28 W base (fun _ => True) (.slice (some ⟨g, 0, none⟩) n c) xs) (j : Nat) (hj : j < n) :
  ∃ A1 c1, W.cell? ⟨g, j * 2, none⟩ = some (.int .i64 (xs.getD j z28).f0) ∧ W.cell? ⟨g, j * 2 + 1, none⟩ = some (.slice A1 (xs.getD j z28).f1.length c1) ∧ (xs.getD j z28).f1.length ≤ c1 ∧ Kd.C (Kd.slice 3 (Kd.int .i64)) W A1 (xs.getD j z28).f1.length (xs.getD j z28).f1 := by
 obtain ⟨hn, _, hC⟩ := Kd.R_reads' h
 obtain ⟨ad, A1, c1, e, h0, h1, h2, h3⟩ := at_T28 hC (j : Int) (by omega) (by omega)
 cases e
 have e1 : (⟨g, 0, none⟩ : Addr).add (j * 2) = ⟨g, j * 2, none⟩ := by
  rcases Nat.eq_zero_or_pos (j * 2) with h | h
  ·rw [h]; rfl
  ·simp [Addr.add]; omega
 simp only [rd_T28, Int.toNat_natCast, e1] at h0 h1 h2 h3
 exact ⟨A1, c1, h0, h1, h2, h3⟩
theorem tag_games {ft : Nat → Nat} {e base : Nat} {ok : Nat → Prop} {w : World} {v : Value} {ps : List (S28 × Nat)} (h : Kd.R (Kd.tag ft kGS) e w base ok v ps) : Kd.R k28 e w base ok v (ps.map Prod.fst) :=
 R_told (d := Kd.tag ft kGS) (d' := k28) Prod.fst rfl (fun _ _ _ _ _ h => k28.M_mono (fun _ hk => hk.1) (kGS_M h)) h
theorem gmT_at {ft : Nat → Nat} {W : World} {base g n c : Nat} {xs : List (S28 × Nat)} (h : Kd.R (Kd.tag ft kGS) 28 W base (fun _ => True) (.slice (some ⟨g, 0, none⟩) n c) xs) (j : Nat) (hj : j < n) :
  ∃ A1 c1, W.cell? ⟨g, j * 2, none⟩ = some (.int .i64 (xs.getD j (z28, 0)).1.f0) ∧ W.cell? ⟨g, j * 2 + 1, none⟩ = some (.slice A1 (xs.getD j (z28, 0)).1.f1.length c1) ∧ (xs.getD j (z28, 0)).1.f1.length ≤ c1 ∧ Kd.C (Kd.slice 3 (Kd.int .i64)) W A1 (xs.getD j (z28, 0)).1.f1.length (xs.getD j (z28, 0)).1.f1 := by
 have hn := (Kd.R_reads' h).1
 have e : (xs.map Prod.fst).getD j z28 = (xs.getD j (z28, 0)).1 := by simp [List.getD_eq_getElem?_getD, show j < xs.length by omega]
 have h2 := gm_at (tag_games h) j hj
 rw [e] at h2
 exact h2
theorem gmT_set {ft : Nat → Nat} {W : World} {base g n c : Nat} {xs : List (S28 × Nat)} (h : Kd.R (Kd.tag ft kGS) 28 W base (fun _ => True) (.slice (some ⟨g, 0, none⟩) n c) xs) (i j : Nat) (hi : i < n) (hj : j < n) (a b : Value)
  (ha : W.cell? ⟨g, j * 2, none⟩ = some a) (hb : W.cell? ⟨g, j * 2 + 1, none⟩ = some b) :
  Kd.R (Kd.tag ft kGS) 28 ((W.setCell ⟨g, i * 2, none⟩ a).setCell ⟨g, i * 2 + 1, none⟩ b) base (fun _ => True) (.slice (some ⟨g, 0, none⟩) n c) (xs.set i (xs.getD j (z28, 0))) ∧ W.grownBy ((W.setCell ⟨g, i * 2, none⟩ a).setCell ⟨g, i * 2 + 1, none⟩ b) (some g) :=
 R_move_el (Kd.tag ft kGS) h i j hi hj [a, b] rfl (Nat.zero_lt_succ 1) (fun q u hq => by
  match q, hq with
  | 0, hq => cases hq; exact ha
  | 1, hq => cases hq; exact hb) _ (by have := (Kd.R_reads' h).1; simp [List.getD_eq_getElem?_getD, show j < xs.length by omega])
end Go.Proofs.YtnncjnjfdhbddaaGreat.Z
namespace Go.Proofs.YtnncjnjfdhbddaaGreat.Z
open Go.RowKit Go.Proofs.YtnncjnjfdhbddaaGreatW.PrintWords Go.Proofs.YtnncjnjfdhbddaaGreatW.PrintLast Go.Proofs.YtnncjnjfdhbddaaGreatW.PrintMore
attribute [local go_sem] max2_int min2_int max_two min_two max_three min_three max_four min_four
set_option linter.unusedVariables false
set_option linter.unusedSimpArgs false
set_option maxHeartbeats 4000000 in
theorem indexFunc_gm (p : S28 → Bool) (g : Nat) (cb : Array Value) (A : Option Addr) (c : Nat) (l : List S28) (w : World)
  (eg : ∀ args w, (callFunc g args).run Tryz.prog w = .ok (.enter g args) w)
  (hr : Kd.C k28 w A l.length l)
  (hp : ∀ W x A0 c0, x ∈ l → Below w.heap.size w W → x.f1.length ≤ c0 → Kd.C (Kd.slice 3 (Kd.int .i64)) W A0 x.f1.length x.f1 → Calls Tryz.prog g (#[.agg #[.int .i64 x.f0, .slice A0 x.f1.length c0]] ++ cb) W fun e w' => e = .returned (.bool (p x)) ∧ Below W.heap.size W w') :
  Calls Tryz.prog 129 #[.slice A l.length c, .func (.func g) #[] cb] w fun e w' => e = .returned (.int .i64 (idxI p l)) ∧ Below w.heap.size w w' := by
 have HR := Aside0.mk hr
 have HP := Aside0.mk hp
 have hm := hr.2.1
 have hu := Tryz.underlying28
 clear hr hp
 go_enter Tryz.func129, Tryz.ntmps129
 go_wp2
 go_loopg [5, 8] l.length (fun gg _ s8 wr => ∃ kk : Nat, kk ≤ l.length ∧ l.length - kk ≤ gg ∧ s8 = .int .i64 kk ∧ Aside0 (Below w.heap.size w wr) ∧ Aside0 (∀ j, j < kk → p (l.getD j z28) = false))
 case atStart => exact ⟨0, Nat.zero_le _, by omega, rfl, ⟨Below.refl _ w⟩, ⟨fun j hj => absurd hj (Nat.not_lt_zero _)⟩⟩
 case round =>
  obtain ⟨kk, hkk, hg, rfl, BW, HA⟩ := hrel
  by_cases hlt : kk < l.length
  ·have hltz : (kk : Int) < (l.length : Int) := by omega
   have h0z : (0 : Int) ≤ (kk : Int) := by omega
   obtain ⟨ad, A0, c0, e, hc0, hc1, hl0, hC0⟩ := at_T28 (Kd.C_below HR.out BW.out) (kk : Int) (by omega) hltz
   subst e
   rw [Int.toNat_natCast] at hc0 hc1
   have hy0 : rd_T28 l (kk : Int) = l.getD kk z28 := by simp [rd_T28]
   have hmem : l.getD kk z28 ∈ l := by simp [List.getD_eq_getElem?_getD, hlt]
   rw [hy0] at hc0 hc1 hl0 hC0
   have hcall := HP.out wr _ A0 c0 hmem BW.out hl0 hC0
   clear hy0 hmem HR HP
   generalize hy : l.getD kk z28 = y at *
   have B := Aside0.mk hy
   clear hy
   cases hq : p y with
   | true =>
    rw [hq] at hcall
    have Q := Aside0.mk hq
    clear hq
    go_wp2_with (go_at_fn g; refine hcall.mono ?_; rintro e w' ⟨rfl, hb'⟩)
    go_ret
    refine ⟨?_, Below.trans BW.out (hb'.mono BW.out.size)⟩
    rw [idxI_hit p l z28 kk hlt (by rw [B.out]; exact Q.out) HA.out]
    rfl
   | false =>
    rw [hq] at hcall
    have Q := Aside0.mk hq
    clear hq
    go_wp2_with (go_at_fn g; refine hcall.mono ?_; rintro e w' ⟨rfl, hb'⟩)
    go_roundg (l.length - (kk + 1))
    case measure => omega
    case rel =>
     refine ⟨kk + 1, by omega, by omega, by go_num, ⟨Below.trans BW.out (hb'.mono BW.out.size)⟩, ⟨fun j hj => ?_⟩⟩
     by_cases e : j = kk
     ·subst e
      rw [B.out]; exact Q.out
     ·exact HA.out j (by omega)
  ·have hltz : ¬ (kk : Int) < (l.length : Int) := by omega
   have : kk = l.length := by omega
   subst this
   go_wp2
   go_ret
   refine ⟨?_, BW.out⟩
   rw [idxI_miss p l z28 HA.out]
   rfl
end Go.Proofs.YtnncjnjfdhbddaaGreat.Z
namespace Go.Proofs.YtnncjnjfdhbddaaGreat.Z
open Go.RowKit Go.Proofs.YtnncjnjfdhbddaaGreatW.PrintWords Go.Proofs.YtnncjnjfdhbddaaGreatW.PrintLast Go.Proofs.YtnncjnjfdhbddaaGreatW.PrintMore
attribute [local go_sem] max2_int min2_int max_two min_two max_three min_three max_four min_four
set_option linter.unusedVariables false
set_option linter.unusedSimpArgs false
def keepL {α : Type} (p : α → Bool) (xs : List α) (j : Nat) : List α := (xs.take j).filter fun x => !(p x)
theorem keepL_len {α : Type} (p : α → Bool) (xs : List α) (j : Nat) : (keepL p xs j).length ≤ j := Nat.le_trans (List.length_filter_le _ _) (by rw [List.length_take]; exact Nat.min_le_left _ _)
theorem keepL_yes {α : Type} (p : α → Bool) (xs : List α) (z : α) (j : Nat) (hj : j < xs.length) (h : p (xs.getD j z) = false) : keepL p xs (j + 1) = keepL p xs j ++ [xs.getD j z] := by
 have e : xs.take (j + 1) = xs.take j ++ [xs.getD j z] := by rw [List.take_succ_eq_append_getElem hj]; simp [List.getD_eq_getElem?_getD, hj]
 rw [keepL, e, List.filter_append, List.filter_cons, h]
 simp [keepL]
theorem keepL_no {α : Type} (p : α → Bool) (xs : List α) (z : α) (j : Nat) (hj : j < xs.length) (h : p (xs.getD j z) = true) : keepL p xs (j + 1) = keepL p xs j := by
 have e : xs.take (j + 1) = xs.take j ++ [xs.getD j z] := by rw [List.take_succ_eq_append_getElem hj]; simp [List.getD_eq_getElem?_getD, hj]
 rw [keepL, e, List.filter_append, List.filter_cons, h]
 simp [keepL]
def midL {α : Type} (p : α → Bool) (xs : List α) (j : Nat) : List α := keepL p xs j ++ xs.drop (keepL p xs j).length
theorem midL_at {α : Type} (p : α → Bool) (xs : List α) (z : α) (j : Nat) : (midL p xs j).getD j z = xs.getD j z := by
 have h := keepL_len p xs j
 simp only [midL, List.getD_eq_getElem?_getD]
 rw [List.getElem?_append_right h, List.getElem?_drop]
 congr 2
 omega
theorem midL_yes {α : Type} (p : α → Bool) (xs : List α) (z : α) (j : Nat) (hj : j < xs.length) (h : p (xs.getD j z) = false) : midL p xs (j + 1) = (midL p xs j).set (keepL p xs j).length (xs.getD j z) := by
 have hl := keepL_len p xs j
 obtain ⟨d, hd⟩ : ∃ d, xs.drop (keepL p xs j).length = d :: xs.drop ((keepL p xs j).length + 1) := ⟨xs[(keepL p xs j).length], by rw [List.drop_eq_getElem_cons]⟩
 rw [midL, keepL_yes p xs z j hj h, midL, List.set_append_right _ _ (Nat.le_refl _), Nat.sub_self, hd]
 simp
theorem midL_no {α : Type} (p : α → Bool) (xs : List α) (z : α) (j : Nat) (hj : j < xs.length) (h : p (xs.getD j z) = true) : midL p xs (j + 1) = midL p xs j := by rw [midL, keepL_no p xs z j hj h, midL]
theorem keepL_first {α : Type} (p : α → Bool) (xs : List α) (z : α) (i : Nat) (hi : i ≤ xs.length) (h : ∀ m, m < i → p (xs.getD m z) = false) : keepL p xs i = xs.take i := by
 rw [keepL, List.filter_eq_self]
 intro x hx
 obtain ⟨m, hm, rfl⟩ := List.mem_iff_getElem.1 hx
 rw [List.length_take] at hm
 have := h m (by omega)
 simpa [List.getD_eq_getElem?_getD, show m < xs.length by omega] using this
theorem grown_bel {w W W' : World} {g : Nat} (h : w.grownBy W (some g)) (hb : Below W.heap.size W W') : w.grownBy W' (some g) :=
 ⟨hb.os.trans h.os, hb.tape.trans h.tape, hb.output.trans h.output, Nat.le_trans h.size hb.size, fun k hk hne => (hb.block k (Nat.lt_of_lt_of_le hk h.size)).trans (h.block k hk hne)⟩
theorem grown_two {w W W' : World} {g : Nat} (h : w.grownBy W (some g)) (h' : W.grownBy W' (some g)) : w.grownBy W' (some g) :=
 ⟨h'.os.trans h.os, h'.tape.trans h.tape, h'.output.trans h.output, Nat.le_trans h.size h'.size, fun k hk hne => (h'.block k (Nat.lt_of_lt_of_le hk h.size) hne).trans (h.block k hk hne)⟩
theorem infoGm3 : (Tryz.prog.info? 28).map (·.zero) = some (some (.agg #[(.int .i64 0), (.slice none 0 0)])) := by kernel_rfl
theorem one28 : ∀ u ∈ (Value.agg #[.int .i64 0, .slice none 0 0]).cells, u.oneCell' = true := by
 intro u hu
 have : u ∈ [Value.int .i64 0, .slice none 0 0] := by simpa [Value.cells] using hu
 simp only [List.mem_cons, List.not_mem_nil, or_false] at this
 rcases this with h | h <;> subst h <;> rfl
theorem clear_gm {ft : Nat → Nat} {ops : Array Oper} {rest : List Oper} {o : Oper} {a : Act} {Q : Exit → Act → World → Prop} {W : World} {base g n m c c2 : Nat} {xs : List (S28 × Nat)} {x : Operand} (hgd : o.guard = none) (ho : o.op = .call { callee := .builtin .clear, args := #[x], argTypes := #[53] })
  (hx : a.eval x = .slice (some ⟨g, n * 2, none⟩) m c2) (HO : Kd.R (Kd.tag ft kGS) 28 W base (fun _ => True) (.slice (some ⟨g, 0, none⟩) n c) xs) (hm : 0 < m) (hnm : n + m ≤ c)
  (h : ∀ w1, Kd.R (Kd.tag ft kGS) 28 w1 base (fun _ => True) (.slice (some ⟨g, 0, none⟩) n c) xs → W.grownBy w1 (some g) → wpList Tryz.prog ops Q rest (a.put o.dst (.tuple #[])) w1) : wpList Tryz.prog ops Q (o :: rest) a W :=
 R_clear_op (Kd.tag ft kGS) base hgd x 53 28 (.agg #[.int .i64 0, .slice none 0 0]) ho Tryz.underlying53 infoGm3 one28 rfl (Nat.zero_lt_succ 1) hx rfl HO hm hnm h
set_option maxRecDepth 100000 in
set_option maxHeartbeats 8000000 in
theorem deleteFunc_gm (ft : Nat → Nat) (p : S28 → Bool) (f : Nat) (cb : Array Value) (g n c base : Nat) (xs : List (S28 × Nat)) (hn : n ≤ 100000) (w : World)
  (eg : ∀ args w, (callFunc f args).run Tryz.prog w = .ok (.enter f args) w)
  (hR : Kd.R (Kd.tag ft kGS) 28 w base (fun _ => True) (.slice (some ⟨g, 0, none⟩) n c) xs)
  (hp : ∀ W (x : S28 × Nat) A0 c0, x ∈ xs → w.grownBy W (some g) → x.1.f1.length ≤ c0 → Kd.C (Kd.slice 3 (Kd.int .i64)) W A0 x.1.f1.length x.1.f1 → Calls Tryz.prog f (#[.agg #[.int .i64 x.1.f0, .slice A0 x.1.f1.length c0]] ++ cb) W fun e w' => e = .returned (.bool (p x.1)) ∧ Below W.heap.size W w') :
  Calls Tryz.prog 86 #[.slice (some ⟨g, 0, none⟩) n c, .func (.func f) #[] cb] w fun e w' => ∃ v, e = .returned v ∧ Kd.R (Kd.tag ft kGS) 28 w' base (fun _ => True) v (xs.filter fun x => !(p x.1)) ∧ w.grownBy w' (some g) := by
 have hu28 := Tryz.underlying28
 obtain ⟨hnx0, hnc, hC⟩ := Kd.R_reads' (tag_games hR)
 have hnx : n = xs.length := by simpa using hnx0
 clear hnx0
 have hI := indexFunc_gm p f cb (some ⟨g, 0, none⟩) c (xs.map Prod.fst) w eg hC (fun W x A0 c0 hx hB hl hc => by obtain ⟨y, hy, rfl⟩ := List.mem_map.1 hx; exact hp W y A0 c0 hy ⟨hB.os, hB.tape, hB.output, hB.size, fun k hk _ => hB.block k hk⟩ hl hc)
 have hix : idxI p (xs.map Prod.fst) = idxI (fun x : S28 × Nat => p x.1) xs := by
  unfold idxI
  rw [List.any_map, List.findIdx_map]
  rfl
 have hml : (xs.map Prod.fst).length = xs.length := by simp
 rw [hix, hml] at hI
 clear hix hml
 obtain ⟨pp, hpp⟩ : ∃ pp : S28 × Nat → Bool, pp = fun x => p x.1 := ⟨_, rfl⟩
 have hp : ∀ W (x : S28 × Nat) A0 c0, x ∈ xs → w.grownBy W (some g) → x.1.f1.length ≤ c0 → Kd.C (Kd.slice 3 (Kd.int .i64)) W A0 x.1.f1.length x.1.f1 → Calls Tryz.prog f (#[.agg #[.int .i64 x.1.f0, .slice A0 x.1.f1.length c0]] ++ cb) W fun e w' => e = .returned (.bool (pp x)) ∧ Below W.heap.size W w' := hpp ▸ hp
 rw [← hpp] at hI
 rw [show (xs.filter fun x => !(p x.1)) = xs.filter fun x => !(pp x) by rw [hpp]]
 clear hpp
 have HR := Aside0.mk hR
 have HP := Aside0.mk hp
 have HI := Aside0.mk hI
 have HNX := Aside0.mk hnx
 cases hany : xs.any pp with
 | false =>
  have e1 : idxI pp xs = -1 := by rw [idxI, hany]; rfl
  have e2 : (xs.filter fun x => !(pp x)) = xs := by
   rw [List.filter_eq_self]
   intro x hx
   have := List.any_eq_false.1 hany x hx
   simpa using this
  rw [e1, ← hnx] at HI
  rw [e2]
  clear hI hp hR hC hany e1 e2 hnx
  go_enter Tryz.func86, Tryz.ntmps86
  go_wp2_with (go_at_call 129; refine HI.out.mono ?_; rintro e w1 ⟨rfl, hb⟩; have HB := Aside0.mk hb; clear hb)
  go_ret
  exact ⟨_, rfl, Kd.R_below HR.out HB.out, ⟨HB.out.os, HB.out.tape, HB.out.output, HB.out.size, fun k hk _ => HB.out.block k hk⟩⟩
 | true =>
  obtain ⟨i0, hi0⟩ : ∃ i0, i0 = xs.findIdx pp := ⟨_, rfl⟩
  have hi1 : i0 < n := by rw [hi0, hnx]; exact List.findIdx_lt_length_of_exists (by simpa using hany)
  have e1 : idxI pp xs = (i0 : Int) := by rw [idxI, if_pos hany, hi0]
  have hk0 := keepL_first pp xs (z28, 0) i0 (by omega) (fun m hm => by
   have h1 := List.not_of_lt_findIdx (hi0 ▸ hm)
   simpa [List.getD_eq_getElem?_getD, show m < xs.length by omega] using h1)
  have hpi : pp (xs.getD i0 (z28, 0)) = true := by
   have h1 := List.findIdx_getElem (p := pp) (w := by rw [← hi0]; omega) (xs := xs)
   simp only [← hi0] at h1
   simpa [List.getD_eq_getElem?_getD, show i0 < xs.length by omega] using h1
  have hm0 : midL pp xs (i0 + 1) = xs := by rw [midL_no pp xs (z28, 0) i0 (by omega) hpi, midL, hk0, List.length_take, Nat.min_eq_left (by omega)]; exact List.take_append_drop _ _
  have hl0 : (keepL pp xs (i0 + 1)).length = i0 := by rw [keepL_no pp xs (z28, 0) i0 (by omega) hpi, hk0, List.length_take, Nat.min_eq_left (by omega)]
  have HM0 := Aside0.mk (And.intro hm0 hl0)
  rw [e1, ← hnx] at HI
  have q1 : ((i0 : Int) == -1) = false := by first | (simp; done) | (simp; omega)
  clear hI hp hR hC hany e1 hi0 hk0 hpi hm0 hl0 hnx
  go_enter Tryz.func86, Tryz.ntmps86
  go_wp2_with (go_at_call 129; refine HI.out.mono ?_; rintro e w1 ⟨rfl, hb⟩; have HB := Aside0.mk hb; clear hb)
  clear q1
  go_loopg [5, 6, 7] n (fun gg s5 s6 _ wr => ∃ i j : Nat, i < j ∧ j ≤ n ∧ n - j ≤ gg ∧ s5 = .int .i64 i ∧ s6 = .int .i64 j ∧ Aside0 (i = (keepL pp xs j).length) ∧ Aside0 (w.grownBy wr (some g)) ∧ Aside0 (Kd.R (Kd.tag ft kGS) 28 wr base (fun _ => True) (.slice (some ⟨g, 0, none⟩) n c) (midL pp xs j)))
  case atStart =>
   refine ⟨i0, i0 + 1, by omega, by omega, by omega, rfl, by first | rfl | go_num | simp, ⟨HM0.out.2.symm⟩, ⟨⟨HB.out.os, HB.out.tape, HB.out.output, HB.out.size, fun k hk _ => HB.out.block k hk⟩⟩, ⟨?_⟩⟩
   rw [HM0.out.1]
   exact Kd.R_below HR.out HB.out
  case round =>
   obtain ⟨i, j, hij, hj, hg, rfl, rfl, HI2, HG, HO⟩ := hrel
   by_cases hlt : j < n
   ·have hltz : (j : Int) < (n : Int) := by omega
    have h0z : (0 : Int) ≤ (j : Int) := by omega
    have hi3 : (i : Int) < (n : Int) := by omega
    have hi4 : (0 : Int) ≤ (i : Int) := by omega
    obtain ⟨A1, c1, hc0, hc1, hl1, hC1⟩ := gmT_at HO.out j hlt
    rw [midL_at] at hc0 hc1 hl1 hC1
    have hmem : xs.getD j (z28, 0) ∈ xs := by have := HNX.out; simp [List.getD_eq_getElem?_getD, show j < xs.length by omega]
    have hyes := midL_yes pp xs (z28, 0) j (by have := HNX.out; omega)
    have hno := midL_no pp xs (z28, 0) j (by have := HNX.out; omega)
    have hky := keepL_yes pp xs (z28, 0) j (by have := HNX.out; omega)
    have hkn := keepL_no pp xs (z28, 0) j (by have := HNX.out; omega)
    have hmid := midL_at pp xs (z28, 0) j
    have hcall := fun o => HP.out (wr.alloc o) _ A1 c1 hmem (grown_bel HG.out (below_alloc (Below.refl _ _) o)) hl1 (Kd.C_alloc hC1 o)
    have hgl : g < wr.heap.size := Kd.R_lt HO.out g (by simp [Value.ownBlock])
    have hki := keepL_len pp xs j
    generalize xs.getD j (z28, 0) = y at *
    have HX := Aside0.mk (And.intro hyes hno)
    have HK := Aside0.mk (And.intro hky hkn)
    have HMID := Aside0.mk hmid
    have HGL := Aside0.mk hgl
    have HC01 := Aside0.mk (And.intro hc0 hc1)
    clear hyes hno hky hkn hmid hmem hC1 hgl hl1
    cases hq : pp y with
    | true =>
     rw [hq] at hcall
     have HQ := Aside0.mk hq
     clear hq
     go_wp2_with (go_at_fn f; refine (hcall _).mono ?_; rintro e w2 ⟨rfl, hb⟩; have HBW := Aside0.mk (show Below wr.heap.size wr w2 from Below.trans ((Below.refl _ _).alloc (Nat.le_refl _) _) (hb.mono (by simp))); clear hb)
     go_roundg (n - (j + 1))
     case measure => omega
     case rel =>
      have e1 := HX.out.2 HQ.out
      have e2 := HK.out.2 HQ.out
      exact ⟨i, j + 1, by omega, by omega, by omega, rfl, by go_num, ⟨by rw [e2]; exact HI2.out⟩, ⟨grown_bel HG.out HBW.out⟩, ⟨by rw [e1]; exact Kd.R_below HO.out HBW.out⟩⟩
    | false =>
     rw [hq] at hcall
     have HQ := Aside0.mk hq
     clear hq
     go_wp2_with (go_at_fn f; refine (hcall _).mono ?_; rintro e w2 ⟨rfl, hb⟩; have hz := blk_below (heap1_0 wr _) hb; have hz0 : w2.cell? ⟨wr.heap.size, 0, none⟩ = some (.int .i64 y.1.f0) := (blk_cell hz 0).trans rfl; have hz1 : w2.cell? ⟨wr.heap.size, 1, none⟩ = some (.slice A1 y.1.f1.length c1) := (blk_cell hz 1).trans rfl; have hbw : Below wr.heap.size wr w2 := (Below.trans ((Below.refl _ _).alloc (Nat.le_refl _) _) (hb.mono (by simp))); have hO2 := Kd.R_below HO.out hbw; obtain ⟨Ai, ci, hi5, hi6, _, _⟩ := gmT_at hO2 i (by omega); obtain ⟨_, cur, hh, hrest⟩ := R_block (Kd.tag ft kGS) hO2; clear hrest; have hfi0 := blk_frozen hh (i * 2); have hfi1 := blk_frozen hh (i * 2 + 1); have HBW := Aside0.mk hbw; have HO2 := Aside0.mk hO2; clear hb hz hbw hO2 hh)
     go_roundg (n - (j + 1))
     case measure => omega
     case rel =>
      have e1 := HX.out.1 HQ.out
      have e2 := HK.out.1 HQ.out
      obtain ⟨h1, h2⟩ := gmT_set HO2.out i j (by omega) hlt (.int .i64 y.1.f0) (.slice A1 y.1.f1.length c1) ((HBW.out.cell (World.block_lt_of_cell? wr _ HC01.out.1)).trans HC01.out.1) ((HBW.out.cell (World.block_lt_of_cell? wr _ HC01.out.2)).trans HC01.out.2)
      rw [HMID.out, HI2.out, ← e1] at h1
      refine ⟨i + 1, j + 1, by omega, by omega, by omega, by go_num, by go_num, ⟨by rw [e2, HI2.out]; simp⟩, ⟨grown_two (grown_bel HG.out HBW.out) h2⟩, ⟨?_⟩⟩
      rw [← HI2.out] at h1
      exact h1
   ·have hltz : ¬ (j : Int) < (n : Int) := by omega
    have : j = n := by omega
    subst this
    have hfin : keepL pp xs j = xs.filter fun x => !(pp x) := by rw [keepL, HNX.out, List.take_length]
    have hR2 := Kd.R_take HO.out (m := i) (by rw [HI2.out, midL, List.length_append]; omega)
    have e3 : (midL pp xs j).take i = xs.filter fun x => !(pp x) := by rw [midL, HI2.out, List.take_left', hfin]; rfl
    rw [e3] at hR2
    have HR2 := Aside0.mk hR2
    have q2 : (i : Int) ≤ (j : Int) := by omega
    have q3 : (0 : Int) ≤ (i : Int) := by omega
    have q4 : i ≤ j := by omega
    have q5 : i ≤ c := by omega
    have q6 : ¬ c = i := by omega
    have q7 : i + (j - i) ≤ c := by omega
    have q8 : 0 < j - i := by omega
    clear hfin hR2 e3 HM0
    go_wp2_with ((with_reducible refine gate_builtin (b := .clear) (xs := #[.tmp 38]) rfl ?_); refine clear_gm (x := .tmp 38) (base := base) rfl rfl rfl HR2.out q8 q7 ?_; intro w2 hr2 hg2; have HR3 := Aside0.mk hr2; have HG3 := Aside0.mk hg2; clear hr2 hg2)
    go_ret
    exact ⟨_, rfl, HR3.out, grown_two HG.out HG3.out⟩
theorem deleteFunc_S (p : S28 → Bool) (f : Nat) (cb : Array Value) (g n c base : Nat) (xs : List S28) (hn : n ≤ 100000) (w : World)
  (eg : ∀ args w, (callFunc f args).run Tryz.prog w = .ok (.enter f args) w)
  (hR : Kd.S kGS 28 w base (fun _ => True) (.slice (some ⟨g, 0, none⟩) n c) xs)
  (hp : ∀ W x A0 c0, x ∈ xs → w.grownBy W (some g) → x.f1.length ≤ c0 → Kd.C (Kd.slice 3 (Kd.int .i64)) W A0 x.f1.length x.f1 → Calls Tryz.prog f (#[.agg #[.int .i64 x.f0, .slice A0 x.f1.length c0]] ++ cb) W fun e w' => e = .returned (.bool (p x)) ∧ Below W.heap.size W w') :
  Calls Tryz.prog 86 #[.slice (some ⟨g, 0, none⟩) n c, .func (.func f) #[] cb] w fun e w' => ∃ v, e = .returned v ∧ Kd.S kGS 28 w' base (fun _ => True) v (xs.filter fun x => !(p x)) ∧ w.grownBy w' (some g) := by
 obtain ⟨ft, ps, hT, rfl, hnd⟩ := tags_of_S hR
 refine (deleteFunc_gm ft p f cb g n c base ps hn w eg hT (fun W x A0 c0 hx hG hl hC => hp W x.1 A0 c0 (List.mem_map_of_mem hx) hG hl hC)).mono ?_
 rintro e w' ⟨v, rfl, h, hG⟩
 have hs := S_of_tags h (List.Nodup.sublist (List.Sublist.map Prod.snd List.filter_sublist) hnd)
 refine ⟨v, rfl, ?_, hG⟩
 rw [List.filter_map]
 exact hs
end Go.Proofs.YtnncjnjfdhbddaaGreat.Z
namespace Go.Proofs.YtnncjnjfdhbddaaGreat.Z
open Go.RowKit Go.Proofs.YtnncjnjfdhbddaaGreatW.PrintWords Go.Proofs.YtnncjnjfdhbddaaGreatW.PrintLast Go.Proofs.YtnncjnjfdhbddaaGreatW.PrintMore
attribute [local go_sem] max2_int min2_int max_two min_two max_three min_three max_four min_four
set_option linter.unusedVariables false
set_option linter.unusedSimpArgs false
theorem small16 : ∀ m, m < 16 → inSmall (setI m) = true := by decide +kernel
theorem allG_pos (n : Nat) (hn : n ≤ 4) (h1 : 1 ≤ n) : 0 < (allG n).length := by
 rw [allG, List.length_map, (sortC_perm cmpLL _).length_eq, List.length_map, rawG, List.length_map]
 have : n = 1 ∨ n = 2 ∨ n = 3 ∨ n = 4 := by omega
 rcases this with h | h | h | h <;> subst h <;> decide +kernel
theorem allG_ok (n : Nat) (hn : n ≤ 4) (h1 : 1 ≤ n) : ∀ x ∈ allG n, x.f0 = (n : Int) ∧ byOk (n : Int) x.f1 = true := by
 intro x hx
 obtain ⟨ws, hws, rfl⟩ := List.mem_map.1 hx
 refine ⟨rfl, ?_⟩
 have h2 := (sortC_perm cmpLL _).mem_iff.1 hws
 obtain ⟨g, hg, rfl⟩ := List.mem_map.1 h2
 obtain ⟨t, ht, rfl⟩ := List.mem_map.1 hg
 have h16 : 2 ^ n ≤ 16 := Nat.le_trans (Nat.pow_le_pow_right (by decide) hn) (by decide)
 have hperm : (leastSets n (bitsB n t)).Perm (partS (leastB n (bitsB n t)) (bitsB n t).length) := sortC_perm cmpL _
 have hl : (leastSets n (bitsB n t)).length ≤ 16 := by
  rw [hperm.length_eq, partS, List.length_map]
  exact Nat.le_trans (List.length_filter_le _ _) (by rw [List.length_range, bitsB_len]; exact h16)
 rw [byOk, Bool.and_eq_true]
 refine ⟨decide_eq_true ⟨by omega, by omega, Nat.le_trans hl (by decide)⟩, List.all_eq_true.2 fun st hst => ?_⟩
 have h3 := hperm.mem_iff.1 hst
 obtain ⟨m, hm, rfl⟩ := List.mem_map.1 h3
 have h4 : m < 16 := by
  have := List.mem_range.1 (List.mem_filter.1 hm).1
  rw [bitsB_len] at this
  omega
 exact small16 m h4
theorem allG_len (n : Nat) (hn : n ≤ 4) : (allG n).length ≤ 168 := by
 rw [allG, List.length_map, (sortC_perm cmpLL _).length_eq, List.length_map]
 exact Nat.le_trans (rawG_len n _) (tabs_len n hn)
def impl_solutions.f (a0 : Int) (l1 : List (S86)) : Option ((List (S28))) := if inI a0 1 4 = true ∧ l1.all (clueB a0) = true then some ((allG a0.toNat).filter fun g => !(offG a0.toNat l1 g)) else none
set_option maxRecDepth 100000 in
set_option maxHeartbeats 4000000 in
theorem solutions_apart (a0 : Int) (A1 : Option Addr) (c1 : Nat) (l1 : List (S86)) (r : List (S28)) (w : World) (hr1 : Kd.C k86 w A1 l1.length l1) (hc1 : l1.length ≤ c1) (h : impl_solutions.f a0 l1 = some r) :
  Calls Tryz.prog 58 #[.int .i64 a0, .slice A1 l1.length c1] w fun e w' => ∃ v0_ : Value, e = .returned (v0_) ∧ Kd.S kGS 28 w' w.heap.size (fun _ => True) v0_ r ∧ Below w.heap.size w w' := by
 unfold impl_solutions.f at h
 split at h
 ·rename_i hh
  obtain rfl := Option.some.inj h
  have hi := inI_of hh.1
  obtain ⟨n, rfl⟩ := Int.eq_ofNat_of_zero_le (show 0 ≤ a0 by omega)
  rw [Int.toNat_natCast]
  have hn : n ≤ 4 := by omega
  have hn1 : 1 ≤ n := by omega
  have hcl : ∀ c ∈ l1, clueB (n : Int) c = true := List.all_eq_true.1 hh.2
  have hok := allG_ok n hn hn1
  have hlen := allG_len n hn
  have hag := fun w => allGames_apart (n : Int) (allG n) w (by rw [impl_allGames.f, if_pos (by omega), Int.toNat_natCast])
  have eg : ∀ args w, (callFunc 87 args).run Tryz.prog w = .ok (.enter 87 args) w := enters_of Tryz.func87 (by kernel_rfl) rfl
  have hdf := fun (g c base : Nat) (W : World) (hB : Below w.heap.size w W) (hg : w.heap.size < g) (b : Nat) (hb : W.heap[b]? = some (.cells #[.slice A1 l1.length c1] 39 (0, 0))) (hbg : b < g) (hR : Kd.S kGS 28 W base (fun _ => True) (.slice (some ⟨g, 0, none⟩) (allG n).length c) (allG n)) =>
   deleteFunc_S (offG n l1) 87 #[.pointer (some ⟨b, 0, none⟩)] g (allG n).length c base (allG n) (by omega) W eg hR
    (fun W' x A0 c0 hx hG hl hC => solutions_fn1 n hn l1 hcl x (hok x hx).1 (hok x hx).2 A0 c0 A1 c1 b W' hC hl
     (Kd.C_below hr1 ⟨hG.os.trans hB.os, hG.tape.trans hB.tape, hG.output.trans hB.output, Nat.le_trans hB.size hG.size, fun k hk => (hG.block k (Nat.lt_of_lt_of_le hk hB.size) (by simp; omega)).trans (hB.block k hk)⟩)
     ((hG.block b (blk_lt hb) (by simp; omega)).trans hb))
  have hpos := allG_pos n hn hn1
  have HDF := Aside0.mk hdf
  have HAG := Aside0.mk hag
  generalize allG n = G at *
  generalize l1.length = L at *
  clear hdf hag hcl hok eg hr1 h hh hi hlen
  go_enter Tryz.func58, Tryz.ntmps58
  go_wp2_with (first | (go_at_call 78; refine (HAG.out _).mono ?_; rintro e w1 ⟨v1, rfl, ho, hb⟩; obtain ⟨g, cap, e1, hg1, hg2, _⟩ := Kd.S_form ho hpos; subst e1; have HO1 := Aside0.mk ho; have HBW := Aside0.mk (show Below w.heap.size w w1 from Below.trans ((Below.refl _ _).alloc (Nat.le_refl _) _) (hb.mono (by simp))); have HBX := Aside0.mk (blk_below (heap1_0 w _) hb); have HG1 := Aside0.mk hg1; clear ho hb hg1 hg2) | (go_at_call 86; refine (HDF.out g cap w.heap.size _ HBW.out (by have := HG1.out; simp at this; omega) w.heap.size HBX.out (by have := HG1.out; simp at this; omega) (Kd.S_lower HO1.out (by simp))).mono ?_; rintro e w2 ⟨v2, rfl, ho, hg⟩; have HO2 := Aside0.mk ho; have HG2 := Aside0.mk hg; clear ho hg))
  go_ret
  exact ⟨_, rfl, HO2.out, HBW.out.grown HG2.out HBW.out.size (fun k hk => by cases hk; have := HG1.out; simp at this; omega)⟩
 ·cases h
end Go.Proofs.YtnncjnjfdhbddaaGreat.Z
namespace Go.Proofs.YtnncjnjfdhbddaaGreat.Z
open Go.RowKit Go.Proofs.YtnncjnjfdhbddaaGreatW.PrintWords Go.Proofs.YtnncjnjfdhbddaaGreatW.PrintLast Go.Proofs.YtnncjnjfdhbddaaGreatW.PrintMore
attribute [local go_sem] max2_int min2_int max_two min_two max_three min_three max_four min_four
set_option linter.unusedVariables false
set_option linter.unusedSimpArgs false
mutual
def spec_voBefore.l0 : Nat → List Int → List Int → Int → Option (Bool)
 | 0, _, _, _ => none
 | k + 1, x0, x1, x5 => if x5 < (x0.length : Int) then (spec_voBefore.j1 k x0 x1 x5 (decide (x5 < (x1.length : Int)))) else (spec_voBefore.j1 k x0 x1 x5 false)
def spec_voBefore.j1 : Nat → List Int → List Int → Int → Bool → Option (Bool)
 | 0, _, _, _, _ => none
 | k + 1, x0, x1, x5, x15 => if x15 = true then (if 0 ≤ x5 then (if x5 < (x0.length : Int) then (if x5 < (x1.length : Int) then (if (rd x0 x5) = (rd x1 x5) then (spec_voBefore.l0 k x0 x1 (wrap64 (x5 + 1))) else (some (decide ((rd x0 x5) < (rd x1 x5))))) else (none)) else (none)) else (none)) else (some (decide ((x0.length : Int) < (x1.length : Int))))
end
def spec_voBefore.f (k : Nat) (l0 : List Int) (l1 : List Int) : Option (Bool) := spec_voBefore.l0 k l0 l1 0
theorem spec_voBefore.mono_l : ∀ k, (∀ y0 y1 y2, LeO (spec_voBefore.l0 k y0 y1 y2) (spec_voBefore.l0 (k + 1) y0 y1 y2)) ∧ (∀ y0 y1 y2 y3, LeO (spec_voBefore.j1 k y0 y1 y2 y3) (spec_voBefore.j1 (k + 1) y0 y1 y2 y3))
 | 0 => ⟨fun _ _ _ r h => by simp [spec_voBefore.l0] at h, fun _ _ _ _ r h => by simp [spec_voBefore.j1] at h⟩
 | k + 1 => by
  obtain ⟨ih0, ih1⟩ := spec_voBefore.mono_l k
  refine ⟨?_, ?_⟩
  ·intro y0 y1 y2
   unfold spec_voBefore.l0
   repeat' first
   | (with_reducible exact ih0 _ _ _)
   | (with_reducible exact ih1 _ _ _ _)
   | (with_reducible exact LeO.refl _)
   | (with_reducible exact LeO.none _)
   | (with_reducible refine LeO.ite ?_ ?_)
   | (with_reducible refine LeO.bind ?_ (fun _ => ?_))
   | exact ih0 _ _ _
   | exact ih1 _ _ _ _
   | exact LeO.none _
   | refine LeO.ite ?_ ?_
   | refine LeO.bind ?_ (fun _ => ?_)
  ·intro y0 y1 y2 y3
   unfold spec_voBefore.j1
   repeat' first
   | (with_reducible exact ih0 _ _ _)
   | (with_reducible exact ih1 _ _ _ _)
   | (with_reducible exact LeO.refl _)
   | (with_reducible exact LeO.none _)
   | (with_reducible refine LeO.ite ?_ ?_)
   | (with_reducible refine LeO.bind ?_ (fun _ => ?_))
   | exact ih0 _ _ _
   | exact ih1 _ _ _ _
   | exact LeO.none _
   | refine LeO.ite ?_ ?_
   | refine LeO.bind ?_ (fun _ => ?_)
theorem spec_voBefore.mono : ∀ a0 a1 k, LeO (spec_voBefore.f k a0 a1) (spec_voBefore.f (k + 1) a0 a1) := by
 intro a0 a1 k
 obtain ⟨ih0, ih1⟩ := spec_voBefore.mono_l k
 unfold spec_voBefore.f
 repeat' first
   | (with_reducible exact ih0 _ _ _)
   | (with_reducible exact ih1 _ _ _ _)
   | (with_reducible exact LeO.refl _)
   | (with_reducible exact LeO.none _)
   | (with_reducible refine LeO.ite ?_ ?_)
   | (with_reducible refine LeO.bind ?_ (fun _ => ?_))
   | exact ih0 _ _ _
   | exact ih1 _ _ _ _
   | exact LeO.none _
   | refine LeO.ite ?_ ?_
   | refine LeO.bind ?_ (fun _ => ?_)
set_option maxHeartbeats 8000000 in
set_option maxRecDepth 100000 in
theorem spec_voBefore.calls (k : Nat) (A0 : Option Addr) (c0 : Nat) (l0 : List Int) (A1 : Option Addr) (c1 : Nat) (l1 : List Int) (r : Bool) (w : World) (hr0 : Kd.C (Kd.int .i64) w A0 l0.length l0) (hc0 : l0.length ≤ c0) (hr1 : Kd.C (Kd.int .i64) w A1 l1.length l1) (hc1 : l1.length ≤ c1) (h : spec_voBefore.f k l0 l1 = some r) :
  Calls Tryz.prog 103 #[.slice A0 l0.length c0, .slice A1 l1.length c1] w fun e w' => e = .returned (.bool r) ∧ Drawn0 w w' := by
 have HR0 := Aside0.mk hr0
 have HC0 := Aside0.mk hc0
 clear hr0 hc0
 have HR1 := Aside0.mk hr1
 have HC1 := Aside0.mk hc1
 clear hr1 hc1
 have H : (spec_voBefore.l0 k l0 l1 0) = some r := h
 clear h
 have H' := Aside0.mk H
 clear H
 go_enter Tryz.func103, Tryz.ntmps103
 go_wp2
 repeat (go_quiet (fail); try go_wp2)
 go_loopg [5] k (fun kq v5 w' => ∃ (x5_1 : Int), v5 = .int .i64 x5_1 ∧ Aside0 (spec_voBefore.l0 kq l0 l1 x5_1 = some r) ∧ Aside0 (kq ≤ k) ∧ Drawn0 w w')
 case atStart => exact ⟨(0), (by first | rfl | (simp; done) | (simp [*]; done)), H', ⟨Nat.le_refl _⟩, by repeat (first | exact Drawn0.refl _ | apply Drawn0.step)⟩
 case round =>
  clear H'
  try clear c1
  try clear p2
  obtain ⟨x5_1, rfl, HA, HK1, ⟨m1, rfl⟩⟩ := hrel
  cases gk with
  | zero => exact absurd HA.out (by simp [spec_voBefore.l0])
  | succ k1 =>
   have H := HA.out
   clear HA
   simp only [spec_voBefore.l0] at H
   have HC3 := Aside0.mk H
   clear H
   go_upto_region 2 with (fail)
   repeat (go_quiet (fail); go_upto_region 2 with (fail))
   go_cut [15] (fun v15 wc => ∃ (kq : Nat) (x15_2 : Bool), v15 = .bool x15_2 ∧ Aside0 (spec_voBefore.j1 kq l0 l1 x5_1 x15_2 = some r) ∧ Aside0 (kq ≤ k1) ∧ Drawn0 w wc)
   case first =>
    have H := HC3.out
    clear HC3
    by_cases c4 : x5_1 < (l0.length : Int)
    ·rw [if_pos c4] at H
     have c4b0 : decide (x5_1 < (l0.length : Int)) = true := decide_eq_true c4
     clear c4
     (first | rw [c4b0] | (simp only [i64_w, i32_w]; rw [c4b0]) | skip)
     have H' := Aside0.mk H
     clear H
     go_wp2
     repeat (go_quiet (fail); try go_wp2)
     go_meet
     case rel => exact ⟨_, (decide (x5_1 < (l1.length : Int))), (by first | rfl | (simp; done) | (simp [*]; done)), H', ⟨by have := HK1.out; first | omega | exact Nat.le_refl _⟩, by repeat (first | exact Drawn0.refl _ | apply Drawn0.step)⟩
    ·rw [if_neg c4] at H
     have c4b0 : decide (x5_1 < (l0.length : Int)) = false := decide_eq_false c4
     clear c4
     (first | rw [c4b0] | (simp only [i64_w, i32_w]; rw [c4b0]) | skip)
     have H' := Aside0.mk H
     clear H
     go_wp2
     repeat (go_quiet (fail); try go_wp2)
     go_meet
     case rel => exact ⟨_, (false), (by first | rfl | (simp; done) | (simp [*]; done)), H', ⟨by have := HK1.out; first | omega | exact Nat.le_refl _⟩, by repeat (first | exact Drawn0.refl _ | apply Drawn0.step)⟩
   case rest =>
    clear HC3
    try clear c1
    try clear p2
    try clear c4
    try clear c4b0
    try clear p2
    obtain ⟨kq, x15_2, rfl, HA, HJ2, ⟨mc2, rfl⟩⟩ := hcut
    cases kq with
    | zero => exact absurd HA.out (by simp [spec_voBefore.j1])
    | succ kj2 =>
     have H := HA.out
     clear HA
     simp only [spec_voBefore.j1] at H
     by_cases c5 : x15_2 = true
     ·subst c5
      have H1 : (if 0 ≤ x5_1 then (if x5_1 < (l0.length : Int) then (if x5_1 < (l1.length : Int) then (if (rd l0 x5_1) = (rd l1 x5_1) then (spec_voBefore.l0 kj2 l0 l1 (wrap64 (x5_1 + 1))) else (some (decide ((rd l0 x5_1) < (rd l1 x5_1))))) else (none)) else (none)) else (none)) = some r := by rw [if_pos rfl] at H; exact H
      clear H
      have H := H1
      clear H1
      by_cases c6 : 0 ≤ x5_1
      ·rw [if_pos c6] at H
       have c6b0 : decide (0 ≤ x5_1) = true := decide_eq_true c6
       clear c6
       by_cases c7 : x5_1 < (l0.length : Int)
       ·rw [if_pos c7] at H
        have c7b0 : decide (x5_1 < (l0.length : Int)) = true := decide_eq_true c7
        clear c7
        by_cases c8 : x5_1 < (l1.length : Int)
        ·rw [if_pos c8] at H
         have c8b0 : decide (x5_1 < (l1.length : Int)) = true := decide_eq_true c8
         clear c8
         by_cases c9 : (rd l0 x5_1) = (rd l1 x5_1)
         ·rw [if_pos c9] at H
          have c9b0 : ((rd l0 x5_1) == (rd l1 x5_1)) = true := beq_iff_eq.mpr c9
          have c9b1 : ((rd l0 x5_1) != (rd l1 x5_1)) = false := bne_eq_false_iff_eq.mpr c9
          clear c9
          have H' := Aside0.mk H
          clear H
          have p113 : 0 ≤ (x5_1 : Int) := of_decide_eq_true (by first | (with_reducible assumption) | assumption)
          have q113 : x5_1 < (l0.length : Int) := of_decide_eq_true (by first | (with_reducible assumption) | assumption)
          obtain ⟨ad113, e113, hx113_0⟩ := Kd.at_int HR0.out x5_1 p113 q113
          cases e113
          replace p113 := eq_true p113
          replace q113 := eq_true q113
          have p114 : 0 ≤ (x5_1 : Int) := of_decide_eq_true (by first | (with_reducible assumption) | assumption)
          have q114 : x5_1 < (l1.length : Int) := of_decide_eq_true (by first | (with_reducible assumption) | assumption)
          obtain ⟨ad114, e114, hx114_0⟩ := Kd.at_int HR1.out x5_1 p114 q114
          cases e114
          replace p114 := eq_true p114
          replace q114 := eq_true q114
          go_wp2
          repeat (go_quiet (fail); try go_wp2)
          go_roundg kj2
          case measure => have := HK1.out; have := HJ2.out; omega
          case rel => exact ⟨(wrap64 (x5_1 + 1)), (by first | rfl | (simp; done) | (simp [*]; done)), H', ⟨by have := HK1.out; have := HJ2.out; omega⟩, by repeat (first | exact Drawn0.refl _ | apply Drawn0.step)⟩
         ·rw [if_neg c9] at H
          have c9b0 : ((rd l0 x5_1) == (rd l1 x5_1)) = false := beq_eq_false_iff_ne.mpr c9
          have c9b1 : ((rd l0 x5_1) != (rd l1 x5_1)) = true := bne_iff_ne.mpr c9
          obtain rfl := Option.some.inj H
          have p113 : 0 ≤ (x5_1 : Int) := of_decide_eq_true (by first | (with_reducible assumption) | assumption)
          have q113 : x5_1 < (l0.length : Int) := of_decide_eq_true (by first | (with_reducible assumption) | assumption)
          obtain ⟨ad113, e113, hx113_0⟩ := Kd.at_int HR0.out x5_1 p113 q113
          cases e113
          replace p113 := eq_true p113
          replace q113 := eq_true q113
          have p114 : 0 ≤ (x5_1 : Int) := of_decide_eq_true (by first | (with_reducible assumption) | assumption)
          have q114 : x5_1 < (l1.length : Int) := of_decide_eq_true (by first | (with_reducible assumption) | assumption)
          obtain ⟨ad114, e114, hx114_0⟩ := Kd.at_int HR1.out x5_1 p114 q114
          cases e114
          replace p114 := eq_true p114
          replace q114 := eq_true q114
          have p115 : 0 ≤ (x5_1 : Int) := of_decide_eq_true (by first | (with_reducible assumption) | assumption)
          have q115 : x5_1 < (l0.length : Int) := of_decide_eq_true (by first | (with_reducible assumption) | assumption)
          obtain ⟨ad115, e115, hx115_0⟩ := Kd.at_int HR0.out x5_1 p115 q115
          obtain rfl : ad113 = ad115 := (by injection e115)
          replace p115 := eq_true p115
          replace q115 := eq_true q115
          have p116 : 0 ≤ (x5_1 : Int) := of_decide_eq_true (by first | (with_reducible assumption) | assumption)
          have q116 : x5_1 < (l1.length : Int) := of_decide_eq_true (by first | (with_reducible assumption) | assumption)
          obtain ⟨ad116, e116, hx116_0⟩ := Kd.at_int HR1.out x5_1 p116 q116
          obtain rfl : ad114 = ad116 := (by injection e116)
          replace p116 := eq_true p116
          replace q116 := eq_true q116
          go_wp2
          repeat (go_quiet (fail); try go_wp2)
          go_ret
          exact ⟨by first | rfl | (simp; done) | (simp [*]; done), by repeat (first | exact Drawn0.refl _ | apply Drawn0.step)⟩
        ·rw [if_neg c8] at H
         exact absurd H (by simp)
       ·rw [if_neg c7] at H
        exact absurd H (by simp)
      ·rw [if_neg c6] at H
       exact absurd H (by simp)
     ·replace c5 := Bool.eq_false_iff.mpr c5
      subst c5
      have H1 : (some (decide ((l0.length : Int) < (l1.length : Int)))) = some r := by rw [if_neg (show ¬ (false = true) by decide)] at H; exact H
      clear H
      have H := H1
      clear H1
      obtain rfl := Option.some.inj H
      go_wp2
      repeat (go_quiet (fail); try go_wp2)
      go_ret
      exact ⟨by first | rfl | (simp; done) | (simp [*]; done), by repeat (first | exact Drawn0.refl _ | apply Drawn0.step)⟩
end Go.Proofs.YtnncjnjfdhbddaaGreat.Z
namespace Go.Proofs.YtnncjnjfdhbddaaGreat.Z
open Go.RowKit Go.Proofs.YtnncjnjfdhbddaaGreatW.PrintWords Go.Proofs.YtnncjnjfdhbddaaGreatW.PrintLast Go.Proofs.YtnncjnjfdhbddaaGreatW.PrintMore
attribute [local go_sem] max2_int min2_int max_two min_two max_three min_three max_four min_four
set_option linter.unusedVariables false
set_option linter.unusedSimpArgs false
def befB (a b : List Int) : Bool := decide (cmpL a b < 0)
theorem befB_nil (b : List Int) : befB [] b = decide (0 < b.length) := by cases b <;> simp [befB, cmpL, lexC]
theorem befB_nil2 (x : Int) (a : List Int) : befB (x :: a) [] = false := by simp [befB, cmpL, lexC]
theorem befB_cons (x y : Int) (a b : List Int) : befB (x :: a) (y :: b) = if x = y then befB a b else decide (x < y) := by
 simp only [befB, cmpL, lexC, cmpI]
 by_cases h : x = y
 ·subst h
  simp only [Int.lt_irrefl, if_false, if_true]
  exact decide_eq_decide.2 Iff.rfl
 ·by_cases h2 : x < y
  ·simp [h, h2]
  ·have h3 : y < x := by omega
   have h4 : ¬ x ≤ y := by omega
   simp [h, h2, h3, h4]
theorem drop_cons (l : List Int) (j : Nat) (h : j < l.length) : l.drop j = rd l (j : Int) :: l.drop (j + 1) := by
 rw [List.drop_eq_getElem_cons h]
 simp [rd, List.getD_eq_getElem?_getD, h]
theorem voBefore_l (a b : List Int) (ha : a.length ≤ 1000) : ∀ (d j : Nat), j + d = a.length → spec_voBefore.l0 (2 * d + 2) a b (j : Int) = some (befB (a.drop j) (b.drop j))
 | 0, j, h => by
  rw [spec_voBefore.l0, if_neg (by omega), spec_voBefore.j1, if_neg (by simp), List.drop_eq_nil_of_le (show a.length ≤ j by omega), befB_nil, List.length_drop]
  congr 1
  simp only [decide_eq_decide]
  omega
 | d + 1, j, h => by
  have hj : j < a.length := by omega
  rw [show 2 * (d + 1) + 2 = (2 * d + 2) + 1 + 1 by omega, spec_voBefore.l0, if_pos (by omega), spec_voBefore.j1, drop_cons a j hj]
  by_cases hb : j < b.length
  ·rw [if_pos (by simp; omega), if_pos (by omega), if_pos (by omega), if_pos (by omega), drop_cons b j hb, befB_cons, wrap64_nat1 j (by omega), voBefore_l a b ha d (j + 1) (by omega)]
   by_cases h : rd a (j : Int) = rd b (j : Int)
   ·rw [if_pos h, if_pos h]
   ·rw [if_neg h, if_neg h]
  ·rw [if_neg (by simp; omega), List.drop_eq_nil_of_le (show b.length ≤ j by omega), befB_nil2]
   congr 1
   simp only [decide_eq_false_iff_not]
   omega
theorem voBefore_f (a b : List Int) (ha : a.length ≤ 1000) : spec_voBefore.f (2 * a.length + 2) a b = some (befB a b) := by
 have := voBefore_l a b ha a.length 0 (by omega)
 simpa [spec_voBefore.f] using this
end Go.Proofs.YtnncjnjfdhbddaaGreat.Z
namespace Go.Proofs.YtnncjnjfdhbddaaGreat.Z
open Go.RowKit Go.Proofs.YtnncjnjfdhbddaaGreatW.PrintWords Go.Proofs.YtnncjnjfdhbddaaGreatW.PrintLast Go.Proofs.YtnncjnjfdhbddaaGreatW.PrintMore
attribute [local go_sem] max2_int min2_int max_two min_two max_three min_three max_four min_four
set_option linter.unusedVariables false
set_option linter.unusedSimpArgs false
section
variable {α : Type} {R : α → List Value → Prop} {sz m c : Nat} {w : World} {A : Option Addr} {xs : List α}
theorem rows_take (h : ReadsRow R sz w A xs.length xs) (hm : m ≤ xs.length) : ReadsRow R sz w A m (xs.take m) := by
 have hl : (xs.take m).length = m := by rw [List.length_take]; omega
 refine ⟨hl, by have := h.2.1; omega, fun hp => ?_⟩
 obtain ⟨ad, e, hc⟩ := h.2.2 (by omega)
 refine ⟨ad, e, fun j p hj => hc j p ?_⟩
 rw [List.getElem?_take] at hj
 split at hj
 ·exact hj
 ·cases hj
theorem rows_drop (h : ReadsRow R sz w A xs.length xs) (hm : m ≤ xs.length) (hc : xs.length ≤ c) : ReadsRow R sz w (if c = m then A else A.map (·.add (m * sz))) (xs.length - m) (xs.drop m) := by
 have hl : (xs.drop m).length = xs.length - m := List.length_drop
 refine ⟨hl, by have := h.2.1; omega, fun hp => ?_⟩
 obtain ⟨ad, rfl, hcell⟩ := h.2.2 (by omega)
 rw [if_neg (by omega)]
 refine ⟨ad.add (m * sz), rfl, fun j p hj => ?_⟩
 rw [List.getElem?_drop] at hj
 obtain ⟨cs, h1, h2, h3⟩ := hcell (m + j) p hj
 refine ⟨cs, h1, h2, fun i u hu => ?_⟩
 rw [add_add, show m * sz + (j * sz + i) = (m + j) * sz + i by rw [Nat.add_mul]; omega]
 exact h3 i u hu
theorem R_rowsM {d : Kd α} {e base : Nat} {v : Value} (h : d.R e w base (fun _ => True) v xs) : ∃ A c, v = .slice A xs.length c ∧ xs.length ≤ c ∧ ReadsRow (d.M w base (fun k => k < w.heap.size)) d.sz w A xs.length xs := by
 obtain ⟨A, c, he, hl, hr⟩ := OwnRow.reads (Kd.R_bound h).2
 exact ⟨A, c, he, hl, hr.imp_ (Below.refl _ _) (fun _ _ hp => d.M_mono (fun k hk => hk.1.2.2.1) hp)⟩
theorem own_grow {v v1 : Value} {W : World} {N : Nat} (hat : v1.ownBlock = v.ownBlock ∨ ∃ b, v1.ownBlock = some b ∧ W.heap.size ≤ b) (hv : ∀ k, v.ownBlock = some k → N ≤ k) (hN : N ≤ W.heap.size) : ∀ k, v1.ownBlock = some k → N ≤ k := by
 intro k hk
 rcases hat with h | ⟨b, hb, hs⟩
 ·exact hv k (h ▸ hk)
 ·rw [hb] at hk; cases hk; omega
end
def insP {α : Type} (lt : α → α → Bool) (l : List α) (x : α) : List α := l.takeWhile (fun y => lt y x) ++ [x] ++ l.dropWhile (fun y => lt y x)
def srtP {α : Type} (lt : α → α → Bool) (l : List α) : List α := l.foldl (insP lt) []
theorem takeWhile_all {α : Type} (p : α → Bool) : ∀ (l : List α), (∀ y ∈ l, p y = true) → l.takeWhile p = l
 | [], _ => rfl
 | x :: t, h => by
  rw [List.takeWhile_cons, h x (by simp)]
  simp only [takeWhile_all p t (fun y hy => h y (by simp [hy])), if_true]
theorem insP_at {α : Type} (lt : α → α → Bool) (l : List α) (x : α) (z : α) (k : Nat) (hk : k ≤ l.length) (h : ∀ i, i < k → lt (l.getD i z) x = true) (he : k = l.length ∨ lt (l.getD k z) x = false) : l.take k ++ [x] ++ l.drop k = insP lt l x := by
 have h1 : (l.take k).takeWhile (fun y => lt y x) = l.take k := by
  refine takeWhile_all _ _ fun y hy => ?_
  obtain ⟨i, hi, rfl⟩ := List.mem_iff_getElem.1 hy
  rw [List.length_take] at hi
  have := h i (by omega)
  simpa [List.getD_eq_getElem?_getD, show i < l.length by omega] using this
 have h3 : (l.take k).dropWhile (fun y => lt y x) = [] := by
  have := List.takeWhile_append_dropWhile (p := fun y => lt y x) (l := l.take k)
  rw [h1] at this
  simpa using this
 have h2 : (l.drop k).takeWhile (fun y => lt y x) = [] ∧ (l.drop k).dropWhile (fun y => lt y x) = l.drop k := by
  rcases he with he | he
  ·rw [List.drop_eq_nil_of_le (by omega)]; simp
  ·rcases Nat.lt_or_ge k l.length with hl | hl
   ·rw [List.drop_eq_getElem_cons hl]
    have : lt l[k] x = false := by simpa [List.getD_eq_getElem?_getD, hl] using he
    exact ⟨by rw [List.takeWhile_cons, this]; rfl, by rw [List.dropWhile_cons, this]; rfl⟩
   ·rw [List.drop_eq_nil_of_le (by omega)]; simp
 have ht : l.takeWhile (fun y => lt y x) = l.take k := by
  conv => lhs; rw [← List.take_append_drop k l]
  rw [List.takeWhile_append, h1, h2.1]; simp
 have hd : l.dropWhile (fun y => lt y x) = l.drop k := by
  conv => lhs; rw [← List.take_append_drop k l]
  rw [List.dropWhile_append, h3, h2.2]; simp
 rw [insP, ht, hd]
theorem srtP_take {α : Type} (lt : α → α → Bool) (l : List α) (z : α) (k : Nat) (hk : k < l.length) : srtP lt (l.take (k + 1)) = insP lt (srtP lt (l.take k)) (l.getD k z) := by
 rw [List.take_succ_eq_append_getElem hk, srtP, List.foldl_append]
 simp [srtP, List.getD_eq_getElem?_getD, hk]
theorem insP_len {α : Type} (lt : α → α → Bool) (l : List α) (x : α) : (insP lt l x).length = l.length + 1 := by
 have := congrArg List.length (List.takeWhile_append_dropWhile (p := fun y => lt y x) (l := l))
 simp only [insP, List.length_append, List.length_singleton] at this ⊢
 omega
theorem srtP_len {α : Type} (lt : α → α → Bool) (l : List α) : (srtP lt l).length = l.length := by
 have key : ∀ (l acc : List α), (l.foldl (insP lt) acc).length = acc.length + l.length := by
  intro l
  induction l with
  | nil => intro acc; simp
  | cons x t ih => intro acc; rw [List.foldl_cons, ih, insP_len, List.length_cons]; omega
 simpa [srtP] using key l []
theorem insP_perm {α : Type} (lt : α → α → Bool) (l : List α) (x : α) : (insP lt l x).Perm (x :: l) := by
 have h : (x :: (l.takeWhile (fun y => lt y x) ++ l.dropWhile (fun y => lt y x))).Perm (x :: l) := by rw [List.takeWhile_append_dropWhile]
 refine List.Perm.trans ?_ h
 rw [insP, List.append_assoc]
 exact List.perm_middle
theorem srtP_perm {α : Type} (lt : α → α → Bool) (l : List α) : (srtP lt l).Perm l := by
 have key : ∀ (l acc : List α), (l.foldl (insP lt) acc).Perm (l.reverse ++ acc) := by
  intro l
  induction l with
  | nil => intro acc; simp
  | cons x t ih =>
   intro acc
   rw [List.foldl_cons]
   refine (ih _).trans ?_
   rw [List.reverse_cons, List.append_assoc]
   exact (insP_perm lt acc x).append_left _
 have := key l []
 rw [List.append_nil] at this
 exact this.trans (List.reverse_perm l)
end Go.Proofs.YtnncjnjfdhbddaaGreat.Z
namespace Go.Proofs.YtnncjnjfdhbddaaGreat.Z
open Go.RowKit Go.Proofs.YtnncjnjfdhbddaaGreatW.PrintWords Go.Proofs.YtnncjnjfdhbddaaGreatW.PrintLast Go.Proofs.YtnncjnjfdhbddaaGreatW.PrintMore
attribute [local go_sem] max2_int min2_int max_two min_two max_three min_three max_four min_four
set_option linter.unusedVariables false
set_option linter.unusedSimpArgs false
def spec_gmBefore.l0 : Nat → List (List Int) → Int → Int → Int → List (List Int) → Int → List (List Int) → Option (Bool)
 | 0, _, _, _, _, _, _, _ => none
 | k + 1, x8, x9, x10, x615000, x615001, x616000, x616001 => if x10 < x9 then (if 0 ≤ x10 then (if x10 < (x8.length : Int) then (if x10 ≥ (x616001.length : Int) then (some false) else (if x10 < (x616001.length : Int) then ((spec_voBefore.f k (rd_L1 x8 x10) (rd_L1 x616001 x10)).bind fun t618 => (if t618 = true then (some true) else ((spec_voBefore.f k (rd_L1 x616001 x10) (rd_L1 x8 x10)).bind fun t620 => (if t620 = true then (some false) else (spec_gmBefore.l0 k x8 x9 (wrap64 (x10 + 1)) x615000 x615001 x616000 x616001))))) else (none))) else (none)) else (none)) else (some (decide ((x615001.length : Int) < (x616001.length : Int))))
def spec_gmBefore.f (k : Nat) (a0_0 : Int) (l0_1 : List (List Int)) (a1_0 : Int) (l1_1 : List (List Int)) : Option (Bool) := spec_gmBefore.l0 k l0_1 (l0_1.length : Int) 0 a0_0 l0_1 a1_0 l1_1
set_option maxHeartbeats 8000000 in
set_option maxRecDepth 100000 in
theorem spec_gmBefore.calls (k : Nat) (a0_0 : Int) (A0_1 : Option Addr) (c0_1 : Nat) (l0_1 : List (List Int)) (a1_0 : Int) (A1_1 : Option Addr) (c1_1 : Nat) (l1_1 : List (List Int)) (r : Bool) (w : World) (hr0_1 : Kd.C (Kd.slice 3 (Kd.int .i64)) w A0_1 l0_1.length l0_1) (hc0_1 : l0_1.length ≤ c0_1) (hr1_1 : Kd.C (Kd.slice 3 (Kd.int .i64)) w A1_1 l1_1.length l1_1) (hc1_1 : l1_1.length ≤ c1_1) (h : spec_gmBefore.f k a0_0 l0_1 a1_0 l1_1 = some r) :
  Calls Tryz.prog 84 #[.agg #[.int .i64 a0_0, .slice A0_1 l0_1.length c0_1], .agg #[.int .i64 a1_0, .slice A1_1 l1_1.length c1_1]] w fun e w' => e = .returned (.bool r) ∧ Below w.heap.size w w' := by
 have hu28 := Tryz.underlying28
 have HR0_1 := Aside0.mk hr0_1
 have HC0_1 := Aside0.mk hc0_1
 clear hr0_1 hc0_1
 have HR1_1 := Aside0.mk hr1_1
 have HC1_1 := Aside0.mk hc1_1
 clear hr1_1 hc1_1
 have HB := Aside0.mk (Below.refl w.heap.size w)
 have H : (spec_gmBefore.l0 k l0_1 (l0_1.length : Int) 0 a0_0 l0_1 a1_0 l1_1) = some r := h
 clear h
 have H' := Aside0.mk H
 clear H
 go_enter Tryz.func84, Tryz.ntmps84
 go_wp2_with (first | ((with_reducible refine gate_dst (N := 2) rfl ?_); refine box_event ?hg (N := 2) ?hd (cs := #[.int .i64 a0_0, .slice A0_1 l0_1.length c0_1]) (t := 28) ?hr ?_; (case hd => rfl); (case hg => rfl); (case hr => first | (go_simp; done) | (go_simp; rfl)); intro gb614 hg w3 hbox hb; have n0_ := Aside0.mk (below_step (by repeat (first | (with_reducible first | exact HB.out | apply below_alloc | apply pw_below_drewN | apply below_drew1) | exact HB.out)) hb); have n1_ := Aside0.mk (hbox); have n2_ := Aside0.mk ((by rw [hg]; exact (below_size (by repeat (first | (with_reducible first | exact HB.out | apply below_alloc | apply pw_below_drewN | apply below_drew1) | exact HB.out))) : w.heap.size ≤ gb614)); have n3_ := Aside0.mk ((by rw [hg]; exact (below_size (by repeat (first | (with_reducible first | exact HB.out | apply below_alloc | apply pw_below_drewN | apply below_drew1) | exact HB.out))) : w.heap.size ≤ gb614)); clear HB; have HB := n0_; have BK614 := n1_; have GW614 := n2_; have GE614 := n3_; clear n0_ n1_ n2_ n3_; clear hb hbox hg) | ((with_reducible refine gate_dst (N := 3) rfl ?_); refine box_event ?hg (N := 3) ?hd (cs := #[.int .i64 a1_0, .slice A1_1 l1_1.length c1_1]) (t := 28) ?hr ?_; (case hd => rfl); (case hg => rfl); (case hr => first | (go_simp; done) | (go_simp; rfl)); intro gb615 hg w4 hbox hb; have n0_ := Aside0.mk (blk_below (g := gb614) (o := .cells #[.int .i64 a0_0, .slice A0_1 l0_1.length c0_1] 28 (0, 0)) (by (with_reducible repeat (first | refine blk_drewN ?_ _ | refine blk_drew ?_ | refine blk_alloc ?_ _)); exact BK614.out) hb); have n1_ := Aside0.mk (below_step (by repeat (first | (with_reducible first | exact HB.out | apply below_alloc | apply pw_below_drewN | apply below_drew1 | refine below_set ?_ GE614.out) | exact HB.out)) hb); have n2_ := Aside0.mk (hbox); have n3_ := Aside0.mk ((by rw [hg]; exact (below_size (by repeat (first | (with_reducible first | exact HB.out | apply below_alloc | apply pw_below_drewN | apply below_drew1 | refine below_set ?_ GE614.out) | exact HB.out))) : w.heap.size ≤ gb615)); have n4_ := Aside0.mk ((by rw [hg]; exact (below_size (by repeat (first | (with_reducible first | exact HB.out | apply below_alloc | apply pw_below_drewN | apply below_drew1 | refine below_set ?_ GE614.out) | exact HB.out))) : w.heap.size ≤ gb615)); have n5_ := Aside0.mk ((by rw [hg]; exact Nat.ne_of_lt (blk_lt (g := gb614) (o := .cells #[.int .i64 a0_0, .slice A0_1 l0_1.length c0_1] 28 (0, 0)) (by (with_reducible repeat (first | refine blk_drewN ?_ _ | refine blk_drew ?_ | refine blk_alloc ?_ _)); exact BK614.out)) : gb614 ≠ gb615)); have n6_ := Aside0.mk ((by rw [hg]; exact Nat.ne_of_gt (blk_lt (g := gb614) (o := .cells #[.int .i64 a0_0, .slice A0_1 l0_1.length c0_1] 28 (0, 0)) (by (with_reducible repeat (first | refine blk_drewN ?_ _ | refine blk_drew ?_ | refine blk_alloc ?_ _)); exact BK614.out)) : gb615 ≠ gb614)); clear BK614; clear HB; have BK614 := n0_; have HB := n1_; have BK615 := n2_; have GW615 := n3_; have GE615 := n4_; have NB614_615 := n5_; have NB615_614 := n6_; clear n0_ n1_ n2_ n3_ n4_ n5_ n6_; clear hb hbox hg; have hnb5 := NB614_615.out; have hnc5 := NB615_614.out; have hcz6_0 : w4.cell? ⟨gb614, 0, none⟩ = some (.int .i64 a0_0) := (blk_cell BK614.out 0).trans rfl; have hcz6_1 : w4.cell? ⟨gb614, 1, none⟩ = some (.slice A0_1 l0_1.length c0_1) := (blk_cell BK614.out 1).trans rfl; have hfz6_0 := blk_frozen BK614.out 0; have hfz6_1 := blk_frozen BK614.out 1))
 go_loopg [10] k (fun kq v10 w' => ∃ (x10_1 : Int), v10 = .int .i64 x10_1 ∧ Aside0 (spec_gmBefore.l0 kq l0_1 (l0_1.length : Int) x10_1 a0_0 l0_1 a1_0 l1_1 = some r) ∧ Aside0 (kq ≤ k) ∧ Aside0 (w'.heap[gb614]? = some (.cells #[.int .i64 a0_0, (.slice A0_1 l0_1.length c0_1)] 28 (0, 0))) ∧ Aside0 (w'.heap[gb615]? = some (.cells #[.int .i64 a1_0, (.slice A1_1 l1_1.length c1_1)] 28 (0, 0))) ∧ Aside0 (Below w.heap.size w w'))
 case atStart => exact ⟨(0), (by first | rfl | (simp; done) | (simp [*]; done)), H', ⟨Nat.le_refl _⟩, ⟨by (with_reducible repeat (first | refine blk_drewN ?_ _ | refine blk_drew ?_ | refine blk_alloc ?_ _)); exact BK614.out⟩, ⟨by (with_reducible repeat (first | refine blk_drewN ?_ _ | refine blk_drew ?_ | refine blk_alloc ?_ _)); exact BK615.out⟩, ⟨by repeat (first | (with_reducible first | exact HB.out | apply below_alloc | apply pw_below_drewN | apply below_drew1 | refine below_set ?_ GE614.out | refine below_set ?_ GE615.out) | exact HB.out)⟩⟩
 case round =>
  clear H'
  try clear c1
  try clear p2
  try clear c5
  try clear hcz6_0
  try clear hcz6_1
  try clear hfz6_0
  try clear hfz6_1
  obtain ⟨x10_1, rfl, HA, HK1, BK614, BK615, HB⟩ := hrel
  cases gk with
  | zero => exact absurd HA.out (by simp [spec_gmBefore.l0])
  | succ k1 =>
   have H := HA.out
   clear HA
   simp only [spec_gmBefore.l0] at H
   by_cases c7 : x10_1 < (l0_1.length : Int)
   ·rw [if_pos c7] at H
    have c7b0 : decide (x10_1 < (l0_1.length : Int)) = true := decide_eq_true c7
    clear c7
    by_cases c8 : 0 ≤ x10_1
    ·rw [if_pos c8] at H
     have c8b0 : decide (0 ≤ x10_1) = true := decide_eq_true c8
     clear c8
     by_cases c9 : x10_1 < (l0_1.length : Int)
     ·rw [if_pos c9] at H
      have c9b0 : decide (x10_1 < (l0_1.length : Int)) = true := decide_eq_true c9
      clear c9
      by_cases c10 : x10_1 ≥ (l1_1.length : Int)
      ·rw [if_pos c10] at H
       have c10b0 : decide ((l1_1.length : Int) ≤ x10_1) = true := decide_eq_true c10
       clear c10
       obtain rfl := Option.some.inj H
       have p616 : 0 ≤ (x10_1 : Int) := of_decide_eq_true (by first | (with_reducible assumption) | assumption)
       have q616 : x10_1 < (l0_1.length : Int) := of_decide_eq_true (by first | (with_reducible assumption) | assumption)
       obtain ⟨ad616, A616_0, c616_0, e616, hx616_0, hl616_0, hi616_0⟩ := at_L1 HR0_1.out x10_1 p616 q616
       cases e616
       replace hx616_0 := (HB.out.cell (World.block_lt_of_cell? w _ hx616_0)).trans hx616_0
       have HR616_0 := Aside0.mk hi616_0
       have HC616_0 := Aside0.mk hl616_0
       clear hi616_0 hl616_0
       replace p616 := eq_true p616
       replace q616 := eq_true q616
       have hnb11 := NB615_614.out
       have hnc11 := NB614_615.out
       have hcz12_0 : wr.cell? ⟨gb615, 0, none⟩ = some (.int .i64 a1_0) := (blk_cell BK615.out 0).trans rfl
       have hcz12_1 : wr.cell? ⟨gb615, 1, none⟩ = some (.slice A1_1 l1_1.length c1_1) := (blk_cell BK615.out 1).trans rfl
       have hfz12_0 := blk_frozen BK615.out 0
       have hfz12_1 := blk_frozen BK615.out 1
       go_wp2
       go_ret
       exact ⟨by first | rfl | (simp [errW_none, errW_some] <;> rfl) | (simp [*, errW_none, errW_some] <;> rfl), by repeat (first | (with_reducible first | exact HB.out | apply below_alloc | apply pw_below_drewN | apply below_drew1 | refine below_set ?_ GE614.out | refine below_set ?_ GE615.out) | exact HB.out)⟩
      ·rw [if_neg c10] at H
       have c10b0 : decide ((l1_1.length : Int) ≤ x10_1) = false := decide_eq_false c10
       clear c10
       by_cases c13 : x10_1 < (l1_1.length : Int)
       ·rw [if_pos c13] at H
        have c13b0 : decide (x10_1 < (l1_1.length : Int)) = true := decide_eq_true c13
        clear c13
        replace H := Option.bind_eq_some_iff.mp H
        obtain ⟨t618, A140, H⟩ := H
        replace H : (if t618 = true then (some true) else ((spec_voBefore.f k1 (rd_L1 l1_1 x10_1) (rd_L1 l0_1 x10_1)).bind fun t620 => (if t620 = true then (some false) else (spec_gmBefore.l0 k1 l0_1 (l0_1.length : Int) (wrap64 (x10_1 + 1)) a0_0 l0_1 a1_0 l1_1)))) = some r := H
        have A14 := Aside0.mk A140
        clear A140
        by_cases c15 : t618 = true
        ·subst c15
         have H1 : (some true) = some r := by rw [if_pos rfl] at H; exact H
         clear H
         have H := H1
         clear H1
         obtain rfl := Option.some.inj H
         have p616 : 0 ≤ (x10_1 : Int) := of_decide_eq_true (by first | (with_reducible assumption) | assumption)
         have q616 : x10_1 < (l0_1.length : Int) := of_decide_eq_true (by first | (with_reducible assumption) | assumption)
         obtain ⟨ad616, A616_0, c616_0, e616, hx616_0, hl616_0, hi616_0⟩ := at_L1 HR0_1.out x10_1 p616 q616
         cases e616
         replace hx616_0 := (HB.out.cell (World.block_lt_of_cell? w _ hx616_0)).trans hx616_0
         have HR616_0 := Aside0.mk hi616_0
         have HC616_0 := Aside0.mk hl616_0
         clear hi616_0 hl616_0
         replace p616 := eq_true p616
         replace q616 := eq_true q616
         have hnb16 := NB615_614.out
         have hnc16 := NB614_615.out
         have hcz17_0 : wr.cell? ⟨gb615, 0, none⟩ = some (.int .i64 a1_0) := (blk_cell BK615.out 0).trans rfl
         have hcz17_1 : wr.cell? ⟨gb615, 1, none⟩ = some (.slice A1_1 l1_1.length c1_1) := (blk_cell BK615.out 1).trans rfl
         have hfz17_0 := blk_frozen BK615.out 0
         have hfz17_1 := blk_frozen BK615.out 1
         have p617 : 0 ≤ (x10_1 : Int) := of_decide_eq_true (by first | (with_reducible assumption) | assumption)
         have q617 : x10_1 < (l1_1.length : Int) := of_decide_eq_true (by first | (with_reducible assumption) | assumption)
         obtain ⟨ad617, A617_0, c617_0, e617, hx617_0, hl617_0, hi617_0⟩ := at_L1 HR1_1.out x10_1 p617 q617
         cases e617
         replace hx617_0 := (HB.out.cell (World.block_lt_of_cell? w _ hx617_0)).trans hx617_0
         have HR617_0 := Aside0.mk hi617_0
         have HC617_0 := Aside0.mk hl617_0
         clear hi617_0 hl617_0
         replace p617 := eq_true p617
         replace q617 := eq_true q617
         go_wp2_with (first | ((with_reducible refine gate_callee (f := 103) rfl ?_); refine goesL_ (some 26) rfl rfl Tryz.func103 (by kernel_rfl) rfl #[.slice A616_0 (rd_L1 l0_1 x10_1).length c616_0, .slice A617_0 (rd_L1 l1_1 x10_1).length c617_0] rfl (by (try simp only [List.map_toArray, List.map_cons, List.map_nil]); first | done | rfl | (simp only [List.length_drop, List.length_take]; rfl)) ?_; (with_reducible refine (spec_voBefore.calls k1 _ _ (rd_L1 l0_1 x10_1) _ _ (rd_L1 l1_1 x10_1) true _ ?side1 ?side2 ?side3 ?side4 A14.out).mono ?_); (case side1 => repeat (first | exact (Kd.C_below HR616_0.out HB.out) | (with_reducible refine Kd.C_alloc ?_ _) | (with_reducible refine Kd.C_drewN ?_ _) | (with_reducible refine Kd.C_drew ?_))); (case side2 => exact HC616_0.out); (case side3 => repeat (first | exact (Kd.C_below HR617_0.out HB.out) | (with_reducible refine Kd.C_alloc ?_ _) | (with_reducible refine Kd.C_drewN ?_ _) | (with_reducible refine Kd.C_drew ?_))); (case side4 => exact HC617_0.out); rintro e w' ⟨rfl, ⟨nd, rfl⟩⟩; refine ⟨_, rfl, ?_⟩))
         go_ret
         exact ⟨by first | rfl | (simp [errW_none, errW_some] <;> rfl) | (simp [*, errW_none, errW_some] <;> rfl), by repeat (first | (with_reducible first | exact HB.out | apply below_alloc | apply pw_below_drewN | apply below_drew1 | refine below_set ?_ GE614.out | refine below_set ?_ GE615.out) | exact HB.out)⟩
        ·replace c15 := Bool.eq_false_iff.mpr c15
         subst c15
         have H1 : ((spec_voBefore.f k1 (rd_L1 l1_1 x10_1) (rd_L1 l0_1 x10_1)).bind fun t620 => (if t620 = true then (some false) else (spec_gmBefore.l0 k1 l0_1 (l0_1.length : Int) (wrap64 (x10_1 + 1)) a0_0 l0_1 a1_0 l1_1))) = some r := by rw [if_neg (show ¬ (false = true) by decide)] at H; exact H
         clear H
         have H := H1
         clear H1
         replace H := Option.bind_eq_some_iff.mp H
         obtain ⟨t620, A180, H⟩ := H
         replace H : (if t620 = true then (some false) else (spec_gmBefore.l0 k1 l0_1 (l0_1.length : Int) (wrap64 (x10_1 + 1)) a0_0 l0_1 a1_0 l1_1)) = some r := H
         have A18 := Aside0.mk A180
         clear A180
         by_cases c19 : t620 = true
         ·subst c19
          have H1 : (some false) = some r := by rw [if_pos rfl] at H; exact H
          clear H
          have H := H1
          clear H1
          obtain rfl := Option.some.inj H
          have p616 : 0 ≤ (x10_1 : Int) := of_decide_eq_true (by first | (with_reducible assumption) | assumption)
          have q616 : x10_1 < (l0_1.length : Int) := of_decide_eq_true (by first | (with_reducible assumption) | assumption)
          obtain ⟨ad616, A616_0, c616_0, e616, hx616_0, hl616_0, hi616_0⟩ := at_L1 HR0_1.out x10_1 p616 q616
          cases e616
          replace hx616_0 := (HB.out.cell (World.block_lt_of_cell? w _ hx616_0)).trans hx616_0
          have HR616_0 := Aside0.mk hi616_0
          have HC616_0 := Aside0.mk hl616_0
          clear hi616_0 hl616_0
          replace p616 := eq_true p616
          replace q616 := eq_true q616
          have hnb20 := NB615_614.out
          have hnc20 := NB614_615.out
          have hcz21_0 : wr.cell? ⟨gb615, 0, none⟩ = some (.int .i64 a1_0) := (blk_cell BK615.out 0).trans rfl
          have hcz21_1 : wr.cell? ⟨gb615, 1, none⟩ = some (.slice A1_1 l1_1.length c1_1) := (blk_cell BK615.out 1).trans rfl
          have hfz21_0 := blk_frozen BK615.out 0
          have hfz21_1 := blk_frozen BK615.out 1
          have p617 : 0 ≤ (x10_1 : Int) := of_decide_eq_true (by first | (with_reducible assumption) | assumption)
          have q617 : x10_1 < (l1_1.length : Int) := of_decide_eq_true (by first | (with_reducible assumption) | assumption)
          obtain ⟨ad617, A617_0, c617_0, e617, hx617_0, hl617_0, hi617_0⟩ := at_L1 HR1_1.out x10_1 p617 q617
          cases e617
          replace hx617_0 := (HB.out.cell (World.block_lt_of_cell? w _ hx617_0)).trans hx617_0
          have HR617_0 := Aside0.mk hi617_0
          have HC617_0 := Aside0.mk hl617_0
          clear hi617_0 hl617_0
          replace p617 := eq_true p617
          replace q617 := eq_true q617
          go_wp2_with (first | ((with_reducible refine gate_callee (f := 103) rfl ?_); refine goesL_ (some 26) rfl rfl Tryz.func103 (by kernel_rfl) rfl #[.slice A616_0 (rd_L1 l0_1 x10_1).length c616_0, .slice A617_0 (rd_L1 l1_1 x10_1).length c617_0] rfl (by (try simp only [List.map_toArray, List.map_cons, List.map_nil]); first | done | rfl | (simp only [List.length_drop, List.length_take]; rfl)) ?_; (with_reducible refine (spec_voBefore.calls k1 _ _ (rd_L1 l0_1 x10_1) _ _ (rd_L1 l1_1 x10_1) false _ ?side1 ?side2 ?side3 ?side4 A14.out).mono ?_); (case side1 => repeat (first | exact (Kd.C_below HR616_0.out HB.out) | (with_reducible refine Kd.C_alloc ?_ _) | (with_reducible refine Kd.C_drewN ?_ _) | (with_reducible refine Kd.C_drew ?_))); (case side2 => exact HC616_0.out); (case side3 => repeat (first | exact (Kd.C_below HR617_0.out HB.out) | (with_reducible refine Kd.C_alloc ?_ _) | (with_reducible refine Kd.C_drewN ?_ _) | (with_reducible refine Kd.C_drew ?_))); (case side4 => exact HC617_0.out); rintro e w' ⟨rfl, ⟨nd, rfl⟩⟩; refine ⟨_, rfl, ?_⟩; have p619 : 0 ≤ (x10_1 : Int) := of_decide_eq_true (by first | (with_reducible assumption) | assumption); have q619 : x10_1 < (l1_1.length : Int) := of_decide_eq_true (by first | (with_reducible assumption) | assumption); obtain ⟨ad619, A619_0, c619_0, e619, hx619_0, hl619_0, hi619_0⟩ := at_L1 HR1_1.out x10_1 p619 q619; obtain rfl : ad617 = ad619 := (by injection e619); replace hx619_0 := (HB.out.cell (World.block_lt_of_cell? w _ hx619_0)).trans hx619_0; have HR619_0 := Aside0.mk hi619_0; have HC619_0 := Aside0.mk hl619_0; clear hi619_0 hl619_0; replace p619 := eq_true p619; replace q619 := eq_true q619; have ea_ := Option.some.inj (hx617_0.symm.trans hx619_0); injection ea_ with ea_ en_ ec_; subst ea_; subst ec_; clear en_) | ((with_reducible refine gate_callee (f := 103) rfl ?_); refine goesL_ (some 33) rfl rfl Tryz.func103 (by kernel_rfl) rfl #[.slice A617_0 (rd_L1 l1_1 x10_1).length c617_0, .slice A616_0 (rd_L1 l0_1 x10_1).length c616_0] rfl (by (try simp only [List.map_toArray, List.map_cons, List.map_nil]); first | done | rfl | (simp only [List.length_drop, List.length_take]; rfl)) ?_; (with_reducible refine (spec_voBefore.calls k1 _ _ (rd_L1 l1_1 x10_1) _ _ (rd_L1 l0_1 x10_1) true _ ?side1 ?side2 ?side3 ?side4 A18.out).mono ?_); (case side1 => repeat (first | exact (Kd.C_below HR619_0.out (by repeat (first | (with_reducible first | exact HB.out | apply below_alloc | apply pw_below_drewN | apply below_drew1 | refine below_set ?_ GE614.out | refine below_set ?_ GE615.out) | exact HB.out))) | (with_reducible refine Kd.C_alloc ?_ _) | (with_reducible refine Kd.C_drewN ?_ _) | (with_reducible refine Kd.C_drew ?_))); (case side2 => exact HC619_0.out); (case side3 => repeat (first | exact (Kd.C_below HR616_0.out (by repeat (first | (with_reducible first | exact HB.out | apply below_alloc | apply pw_below_drewN | apply below_drew1 | refine below_set ?_ GE614.out | refine below_set ?_ GE615.out) | exact HB.out))) | (with_reducible refine Kd.C_alloc ?_ _) | (with_reducible refine Kd.C_drewN ?_ _) | (with_reducible refine Kd.C_drew ?_))); (case side4 => exact HC616_0.out); rintro e w' ⟨rfl, ⟨nd, rfl⟩⟩; refine ⟨_, rfl, ?_⟩))
          go_ret
          exact ⟨by first | rfl | (simp [errW_none, errW_some] <;> rfl) | (simp [*, errW_none, errW_some] <;> rfl), by repeat (first | (with_reducible first | exact HB.out | apply below_alloc | apply pw_below_drewN | apply below_drew1 | refine below_set ?_ GE614.out | refine below_set ?_ GE615.out) | exact HB.out)⟩
         ·replace c19 := Bool.eq_false_iff.mpr c19
          subst c19
          have H1 : (spec_gmBefore.l0 k1 l0_1 (l0_1.length : Int) (wrap64 (x10_1 + 1)) a0_0 l0_1 a1_0 l1_1) = some r := by rw [if_neg (show ¬ (false = true) by decide)] at H; exact H
          clear H
          have H := H1
          clear H1
          have H' := Aside0.mk H
          clear H
          have p616 : 0 ≤ (x10_1 : Int) := of_decide_eq_true (by first | (with_reducible assumption) | assumption)
          have q616 : x10_1 < (l0_1.length : Int) := of_decide_eq_true (by first | (with_reducible assumption) | assumption)
          obtain ⟨ad616, A616_0, c616_0, e616, hx616_0, hl616_0, hi616_0⟩ := at_L1 HR0_1.out x10_1 p616 q616
          cases e616
          replace hx616_0 := (HB.out.cell (World.block_lt_of_cell? w _ hx616_0)).trans hx616_0
          have HR616_0 := Aside0.mk hi616_0
          have HC616_0 := Aside0.mk hl616_0
          clear hi616_0 hl616_0
          replace p616 := eq_true p616
          replace q616 := eq_true q616
          have hnb22 := NB615_614.out
          have hnc22 := NB614_615.out
          have hcz23_0 : wr.cell? ⟨gb615, 0, none⟩ = some (.int .i64 a1_0) := (blk_cell BK615.out 0).trans rfl
          have hcz23_1 : wr.cell? ⟨gb615, 1, none⟩ = some (.slice A1_1 l1_1.length c1_1) := (blk_cell BK615.out 1).trans rfl
          have hfz23_0 := blk_frozen BK615.out 0
          have hfz23_1 := blk_frozen BK615.out 1
          have p617 : 0 ≤ (x10_1 : Int) := of_decide_eq_true (by first | (with_reducible assumption) | assumption)
          have q617 : x10_1 < (l1_1.length : Int) := of_decide_eq_true (by first | (with_reducible assumption) | assumption)
          obtain ⟨ad617, A617_0, c617_0, e617, hx617_0, hl617_0, hi617_0⟩ := at_L1 HR1_1.out x10_1 p617 q617
          cases e617
          replace hx617_0 := (HB.out.cell (World.block_lt_of_cell? w _ hx617_0)).trans hx617_0
          have HR617_0 := Aside0.mk hi617_0
          have HC617_0 := Aside0.mk hl617_0
          clear hi617_0 hl617_0
          replace p617 := eq_true p617
          replace q617 := eq_true q617
          go_wp2_with (first | ((with_reducible refine gate_callee (f := 103) rfl ?_); refine goesL_ (some 26) rfl rfl Tryz.func103 (by kernel_rfl) rfl #[.slice A616_0 (rd_L1 l0_1 x10_1).length c616_0, .slice A617_0 (rd_L1 l1_1 x10_1).length c617_0] rfl (by (try simp only [List.map_toArray, List.map_cons, List.map_nil]); first | done | rfl | (simp only [List.length_drop, List.length_take]; rfl)) ?_; (with_reducible refine (spec_voBefore.calls k1 _ _ (rd_L1 l0_1 x10_1) _ _ (rd_L1 l1_1 x10_1) false _ ?side1 ?side2 ?side3 ?side4 A14.out).mono ?_); (case side1 => repeat (first | exact (Kd.C_below HR616_0.out HB.out) | (with_reducible refine Kd.C_alloc ?_ _) | (with_reducible refine Kd.C_drewN ?_ _) | (with_reducible refine Kd.C_drew ?_))); (case side2 => exact HC616_0.out); (case side3 => repeat (first | exact (Kd.C_below HR617_0.out HB.out) | (with_reducible refine Kd.C_alloc ?_ _) | (with_reducible refine Kd.C_drewN ?_ _) | (with_reducible refine Kd.C_drew ?_))); (case side4 => exact HC617_0.out); rintro e w' ⟨rfl, ⟨nd, rfl⟩⟩; refine ⟨_, rfl, ?_⟩; have p619 : 0 ≤ (x10_1 : Int) := of_decide_eq_true (by first | (with_reducible assumption) | assumption); have q619 : x10_1 < (l1_1.length : Int) := of_decide_eq_true (by first | (with_reducible assumption) | assumption); obtain ⟨ad619, A619_0, c619_0, e619, hx619_0, hl619_0, hi619_0⟩ := at_L1 HR1_1.out x10_1 p619 q619; obtain rfl : ad617 = ad619 := (by injection e619); replace hx619_0 := (HB.out.cell (World.block_lt_of_cell? w _ hx619_0)).trans hx619_0; have HR619_0 := Aside0.mk hi619_0; have HC619_0 := Aside0.mk hl619_0; clear hi619_0 hl619_0; replace p619 := eq_true p619; replace q619 := eq_true q619; have ea_ := Option.some.inj (hx617_0.symm.trans hx619_0); injection ea_ with ea_ en_ ec_; subst ea_; subst ec_; clear en_) | ((with_reducible refine gate_callee (f := 103) rfl ?_); refine goesL_ (some 33) rfl rfl Tryz.func103 (by kernel_rfl) rfl #[.slice A617_0 (rd_L1 l1_1 x10_1).length c617_0, .slice A616_0 (rd_L1 l0_1 x10_1).length c616_0] rfl (by (try simp only [List.map_toArray, List.map_cons, List.map_nil]); first | done | rfl | (simp only [List.length_drop, List.length_take]; rfl)) ?_; (with_reducible refine (spec_voBefore.calls k1 _ _ (rd_L1 l1_1 x10_1) _ _ (rd_L1 l0_1 x10_1) false _ ?side1 ?side2 ?side3 ?side4 A18.out).mono ?_); (case side1 => repeat (first | exact (Kd.C_below HR619_0.out (by repeat (first | (with_reducible first | exact HB.out | apply below_alloc | apply pw_below_drewN | apply below_drew1 | refine below_set ?_ GE614.out | refine below_set ?_ GE615.out) | exact HB.out))) | (with_reducible refine Kd.C_alloc ?_ _) | (with_reducible refine Kd.C_drewN ?_ _) | (with_reducible refine Kd.C_drew ?_))); (case side2 => exact HC619_0.out); (case side3 => repeat (first | exact (Kd.C_below HR616_0.out (by repeat (first | (with_reducible first | exact HB.out | apply below_alloc | apply pw_below_drewN | apply below_drew1 | refine below_set ?_ GE614.out | refine below_set ?_ GE615.out) | exact HB.out))) | (with_reducible refine Kd.C_alloc ?_ _) | (with_reducible refine Kd.C_drewN ?_ _) | (with_reducible refine Kd.C_drew ?_))); (case side4 => exact HC616_0.out); rintro e w' ⟨rfl, ⟨nd, rfl⟩⟩; refine ⟨_, rfl, ?_⟩))
          go_roundg k1
          case measure => have := HK1.out; omega
          case rel => exact ⟨(wrap64 (x10_1 + 1)), (by first | rfl | (simp; done) | (simp [*]; done)), H', ⟨by have := HK1.out; omega⟩, ⟨by (with_reducible repeat (first | refine blk_drewN ?_ _ | refine blk_drew ?_ | refine blk_alloc ?_ _)); exact BK614.out⟩, ⟨by (with_reducible repeat (first | refine blk_drewN ?_ _ | refine blk_drew ?_ | refine blk_alloc ?_ _)); exact BK615.out⟩, ⟨by repeat (first | (with_reducible first | exact HB.out | apply below_alloc | apply pw_below_drewN | apply below_drew1 | refine below_set ?_ GE614.out | refine below_set ?_ GE615.out) | exact HB.out)⟩⟩
       ·rw [if_neg c13] at H
        exact absurd H (by simp)
     ·rw [if_neg c9] at H
      exact absurd H (by simp)
    ·rw [if_neg c8] at H
     exact absurd H (by simp)
   ·rw [if_neg c7] at H
    have c7b0 : decide (x10_1 < (l0_1.length : Int)) = false := decide_eq_false c7
    clear c7
    obtain rfl := Option.some.inj H
    have hnb24 := NB614_615.out
    have hnc24 := NB615_614.out
    have hcz25_0 : wr.cell? ⟨gb614, 0, none⟩ = some (.int .i64 a0_0) := (blk_cell BK614.out 0).trans rfl
    have hcz25_1 : wr.cell? ⟨gb614, 1, none⟩ = some (.slice A0_1 l0_1.length c0_1) := (blk_cell BK614.out 1).trans rfl
    have hfz25_0 := blk_frozen BK614.out 0
    have hfz25_1 := blk_frozen BK614.out 1
    have hcz26_0 : wr.cell? ⟨gb615, 0, none⟩ = some (.int .i64 a1_0) := (blk_cell BK615.out 0).trans rfl
    have hcz26_1 : wr.cell? ⟨gb615, 1, none⟩ = some (.slice A1_1 l1_1.length c1_1) := (blk_cell BK615.out 1).trans rfl
    have hfz26_0 := blk_frozen BK615.out 0
    have hfz26_1 := blk_frozen BK615.out 1
    go_wp2
    go_ret
    exact ⟨by first | rfl | (simp [errW_none, errW_some] <;> rfl) | (simp [*, errW_none, errW_some] <;> rfl), by repeat (first | (with_reducible first | exact HB.out | apply below_alloc | apply pw_below_drewN | apply below_drew1 | refine below_set ?_ GE614.out | refine below_set ?_ GE615.out) | exact HB.out)⟩
end Go.Proofs.YtnncjnjfdhbddaaGreat.Z
namespace Go.Proofs.YtnncjnjfdhbddaaGreat.Z
open Go.RowKit Go.Proofs.YtnncjnjfdhbddaaGreatW.PrintWords Go.Proofs.YtnncjnjfdhbddaaGreatW.PrintLast Go.Proofs.YtnncjnjfdhbddaaGreatW.PrintMore
attribute [local go_sem] max2_int min2_int max_two min_two max_three min_three max_four min_four
set_option linter.unusedVariables false
set_option linter.unusedSimpArgs false
def befG (g h : S28) : Bool := decide (cmpLL g.f1 h.f1 < 0)
def befLL (a b : List (List Int)) : Bool := decide (cmpLL a b < 0)
theorem befLL_nil (b : List (List Int)) : befLL [] b = decide (0 < b.length) := by cases b <;> simp [befLL, cmpLL, lexC]
theorem befLL_nil2 (x : List Int) (a : List (List Int)) : befLL (x :: a) [] = false := by simp [befLL, cmpLL, lexC]
theorem befLL_cons (x y : List Int) (a b : List (List Int)) : befLL (x :: a) (y :: b) = if befB x y then true else if befB y x then false else befLL a b := by
 have h1 := Cmp.L.anti x y
 have h2 := Cmp.L.anti y x
 simp only [befLL, cmpLL, lexC, befB]
 by_cases h : cmpL x y = 0
 ·have h3 : cmpL y x = 0 := by omega
  simp only [h, h3, if_true, Int.lt_irrefl, decide_false, if_false, Bool.false_eq_true]
  exact decide_eq_decide.2 Iff.rfl
 ·by_cases hlt : cmpL x y < 0
  ·simp [h, hlt]
  ·have h4 : cmpL y x < 0 := by omega
   simp [h, hlt, h4]
theorem dropLL_cons (l : List (List Int)) (j : Nat) (h : j < l.length) : l.drop j = l.getD j [] :: l.drop (j + 1) := by
 rw [List.drop_eq_getElem_cons h]
 simp [List.getD_eq_getElem?_getD, h]
theorem rdL1_nat (l : List (List Int)) (j : Nat) : rd_L1 l (j : Int) = l.getD j [] := rfl
theorem voBefore_any (x y : List Int) (hx : x.length ≤ 9) (k : Nat) (hk : 20 ≤ k) : spec_voBefore.f k x y = some (befB x y) :=
 at_rounds (fun k => spec_voBefore.mono x y k) (show 2 * x.length + 2 ≤ k by omega) (voBefore_f x y (by omega))
theorem gmBefore_l (a b : List (List Int)) (ha : a.length ≤ 1000) (hs : ∀ x ∈ a, x.length ≤ 9) (hs2 : ∀ x ∈ b, x.length ≤ 9) (x1 x2 : Int) : ∀ (d j : Nat), j + d = a.length → spec_gmBefore.l0 (d + 21) a (a.length : Int) (j : Int) x1 a x2 b = some (befLL (a.drop j) (b.drop j))
 | 0, j, h => by
  rw [spec_gmBefore.l0, if_neg (by omega), List.drop_eq_nil_of_le (show a.length ≤ j by omega), befLL_nil, List.length_drop]
  congr 1
  simp only [decide_eq_decide]
  omega
 | d + 1, j, h => by
  have hj : j < a.length := by omega
  rw [show d + 1 + 21 = (d + 21) + 1 by omega, spec_gmBefore.l0, if_pos (by omega), if_pos (by omega), if_pos (by omega), dropLL_cons a j hj, rdL1_nat, rdL1_nat]
  have h1 : (a.getD j []).length ≤ 9 := hs _ (by simp [List.getD_eq_getElem?_getD, hj])
  by_cases hb : j < b.length
  ·have h2 : (b.getD j []).length ≤ 9 := hs2 _ (by simp [List.getD_eq_getElem?_getD, hb])
   rw [if_neg (by omega), if_pos (by omega), dropLL_cons b j hb, befLL_cons, voBefore_any _ _ h1 _ (by omega), voBefore_any _ _ h2 _ (by omega), Option.bind_some, Option.bind_some, wrap64_nat1 j (by omega), gmBefore_l a b ha hs hs2 x1 x2 d (j + 1) (by omega)]
   cases befB (a.getD j []) (b.getD j []) <;> cases befB (b.getD j []) (a.getD j []) <;> simp
  ·rw [if_pos (by omega), List.drop_eq_nil_of_le (show b.length ≤ j by omega), befLL_nil2]
theorem gmBefore_f (a b : List (List Int)) (ha : a.length ≤ 1000) (hs : ∀ x ∈ a, x.length ≤ 9) (hs2 : ∀ x ∈ b, x.length ≤ 9) (n m : Int) : spec_gmBefore.f (a.length + 21) n a m b = some (befLL a b) := by
 have := gmBefore_l a b ha hs hs2 n m a.length 0 (by omega)
 simpa [spec_gmBefore.f] using this
end Go.Proofs.YtnncjnjfdhbddaaGreat.Z
namespace Go.Proofs.YtnncjnjfdhbddaaGreat.Z
open Go.RowKit Go.Proofs.YtnncjnjfdhbddaaGreatW.PrintWords Go.Proofs.YtnncjnjfdhbddaaGreatW.PrintLast Go.Proofs.YtnncjnjfdhbddaaGreatW.PrintMore
attribute [local go_sem] max2_int min2_int max_two min_two max_three min_three max_four min_four
set_option linter.unusedVariables false
set_option linter.unusedSimpArgs false
theorem row_at {W : World} {base n c : Nat} {A : Option Addr} {xs : List (List Int)} (h : Kd.R (Kd.slice 3 (Kd.int .i64)) 36 W base (fun _ => True) (.slice A n c) xs) (k : Nat) (hk : k < n) :
  ∃ ad A1 c1, A = some ad ∧ W.cell? (ad.add k) = some (.slice A1 (xs.getD k []).length c1) ∧ (xs.getD k []).length ≤ c1 ∧ Kd.C (Kd.int .i64) W A1 (xs.getD k []).length (xs.getD k []) ∧ (Kd.slice 3 (Kd.int .i64)).M W base (fun k => k < W.heap.size) (xs.getD k []) [.slice A1 (xs.getD k []).length c1] := by
 obtain ⟨hn, _⟩ := Kd.R_reads' h
 obtain ⟨A', c', he, _, hr⟩ := R_rowsM h
 injection he with e1 _ _
 subst e1
 obtain ⟨ad, cs, e, hs, hM, hc⟩ := hr.get_ ([] : List Int) (k : Int) (by omega) (by omega)
 rw [Int.toNat_natCast] at hM hc
 obtain ⟨v, rfl, hR⟩ := hM
 obtain ⟨A1, c1, rfl, hl, hC⟩ := Kd.R_reads hR
 have h1 := hc 0 _ rfl
 have h2 : ad.add (k * (Kd.slice 3 (Kd.int .i64)).sz + 0) = ad.add k := congrArg ad.add (Nat.mul_one k)
 rw [h2] at h1
 exact ⟨ad, A1, c1, e, h1, hl, hC, ⟨_, rfl, hR⟩⟩
theorem R_made (d : Kd (List Int)) (e base : Nat) (W : World) (hb : base ≤ W.heap.size) : d.R e (W.alloc (.cells #[] e)) base (fun _ => True) (.slice (some ⟨W.heap.size, 0, none⟩) 0 0) [] :=
 ⟨fun _ _ => trivial, [], ⟨by simp, .inr ⟨W.heap.size, 0, #[], rfl, hb, heap1_0 _ _, Nat.le_refl _, by simp [maxLen], by simp, by simp⟩⟩, Reps.none _ _⟩
set_option maxRecDepth 100000 in
set_option maxHeartbeats 8000000 in
theorem voSorted_any (base : Nat) (xs : List (List Int)) (hx : xs.length ≤ 1000) (hx2 : ∀ x ∈ xs, x.length ≤ 1000) (A0 : Option Addr) (c0 : Nat) (w : World) (hb0 : base ≤ w.heap.size)
  (hX : Kd.R (Kd.slice 3 (Kd.int .i64)) 36 w base (fun _ => True) (.slice A0 xs.length c0) xs) :
  Calls Tryz.prog 97 #[.slice A0 xs.length c0] w fun e w' => ∃ v, e = .returned v ∧ Kd.R (Kd.slice 3 (Kd.int .i64)) 36 w' base (fun _ => True) v (srtP befB xs) ∧ Below w.heap.size w w' := by
 have HX := Aside0.mk hX
 have HX2 := Aside0.mk hx2
 have HL := Aside0.mk (fun k => srtP_len befB (xs.take k))
 obtain ⟨N, hN⟩ : ∃ N, N = xs.length := ⟨_, rfl⟩
 rw [← hN] at HX hx
 have HN := Aside0.mk hN
 rw [← hN]
 clear hX hx2 hN
 go_enter Tryz.func97, Tryz.ntmps97
 go_wp2
 go_loopg [3, 5, 6, 7, 10] N (fun gg s3 _ _ _ s10 wr => ∃ kk : Nat, kk ≤ N ∧ N - kk ≤ gg ∧ s10 = .int .i64 kk ∧ ∃ Ao co, s3 = .slice Ao kk co ∧ Aside0 (Below w.heap.size w wr) ∧ Aside0 (∀ k, s3.ownBlock = some k → w.heap.size ≤ k) ∧ Aside0 (Kd.R (Kd.slice 3 (Kd.int .i64)) 36 wr base (fun _ => True) s3 (srtP befB (xs.take kk))))
 case atStart => exact ⟨0, Nat.zero_le _, by omega, rfl, none, 0, rfl, ⟨Below.refl _ _⟩, ⟨by simp [Value.ownBlock]⟩, ⟨Kd.R_nil _ _ _ _ _⟩⟩
 case round =>
  obtain ⟨kk, hkk, hg, rfl, Ao, co, rfl, BW, NE, HO⟩ := hrel
  by_cases hlt : kk < N
  ·have hltz : (kk : Int) < (N : Int) := by omega
   have h0z : (0 : Int) ≤ (kk : Int) := by omega
   obtain ⟨ad, A1, c1, e, hcell, hl1, hC1, hM1⟩ := row_at (Kd.R_below HX.out BW.out) kk hlt
   have hxm : xs.getD kk [] ∈ xs := by have := HN.out; simp [List.getD_eq_getElem?_getD, show kk < xs.length by omega]
   have hx1 := HX2.out _ hxm
   have hst := srtP_take befB xs [] kk (by have := HN.out; omega)
   generalize xs.getD kk [] = x at *
   have hlo : (srtP befB (xs.take kk)).length = kk := by rw [HL.out, List.length_take]; have := HN.out; omega
   have hom : ∀ y ∈ srtP befB (xs.take kk), y.length ≤ 1000 := by
    intro y hy
    exact HX2.out y (List.mem_of_mem_take ((srtP_perm befB _).mem_iff.1 hy))
   have HST := Aside0.mk hst
   have HOM := Aside0.mk hom
   have HLO := Aside0.mk hlo
   have HC1 := Aside0.mk hC1
   have HM1 := Aside0.mk hM1
   have HIN := Aside0.mk hcell
   subst e
   clear hst hom hlo hC1 hM1 hxm
   generalize srtP befB (xs.take kk) = os at *
   go_wp2
   go_loopg [6] kk (fun gg s6 wq => ∃ k : Nat, k ≤ kk ∧ kk - k ≤ gg ∧ s6 = .int .i64 k ∧ Aside0 (Below w.heap.size w wq) ∧ Aside0 (∀ i, i < k → befB (os.getD i []) x = true) ∧ Aside0 (Kd.R (Kd.slice 3 (Kd.int .i64)) 36 wq base (fun _ => True) (.slice Ao kk co) os) ∧ Aside0 (Kd.C (Kd.int .i64) wq A1 x.length x) ∧ Aside0 ((Kd.slice 3 (Kd.int .i64)).M wq base (fun k => k < wq.heap.size) x [.slice A1 x.length c1]))
   case atStart => exact ⟨0, Nat.zero_le _, by omega, rfl, BW, ⟨fun i hi => absurd hi (Nat.not_lt_zero _)⟩, HO, HC1, HM1⟩
   case round =>
    clear BW HO HC1 HM1 HIN
    obtain ⟨k, hk, hg2, rfl, BW, HA, HO, HC1, HM1⟩ := hrel
    have arms : True := trivial
    by_cases hkl : k < kk
    ·have hkz : (k : Int) < (kk : Int) := by omega
     have hkz0 : (0 : Int) ≤ (k : Int) := by omega
     have hkd : decide ((k : Int) < (kk : Int)) = true := decide_eq_true hkz
     obtain ⟨ad2, A2, c2, e2, hcell2, hl2, hC2, _⟩ := row_at HO.out k hkl
     have hy1 := HOM.out (os.getD k []) (by have := HLO.out; simp [List.getD_eq_getElem?_getD, show k < os.length by omega])
     have HVB := Aside0.mk (spec_voBefore.calls _ A2 c2 (os.getD k []) A1 c1 x (befB (os.getD k []) x) wr hC2 hl2 HC1.out hl1 (voBefore_f _ x hy1))
     generalize hyy : os.getD k [] = y at *
     have HYY := Aside0.mk hyy
     cases e2
     clear hC2 hyy
     cases hbf : befB y x with
     | true =>
      rw [hbf] at HVB
      have HBF := Aside0.mk hbf
      clear hbf
      go_wp2_with (go_at_call 103; refine HVB.out.mono ?_; rintro e w5 ⟨rfl, hd⟩; obtain ⟨m, rfl⟩ := hd)
      go_roundg (kk - (k + 1))
      case measure => omega
      case rel =>
       refine ⟨k + 1, by omega, by omega, by go_num, ⟨pw_below_drewN BW.out _⟩, ⟨fun i hi => ?_⟩, ⟨Kd.R_drewN HO.out _⟩, ⟨Kd.C_drewN HC1.out _⟩, HM1⟩
       by_cases hi2 : i = k
       ·subst hi2; rw [HYY.out]; exact HBF.out
       ·exact HA.out i (by omega)
     | false =>
      rw [hbf] at HVB
      have HBF := Aside0.mk hbf
      clear hbf
      obtain ⟨_, _, he3, hkco, hrw⟩ := R_rowsM HO.out
      have HLO' := HLO.out
      injection he3 with e4 e6 e5
      clear e6
      rw [← e4, HLO'] at hrw
      rw [← e5, HLO'] at hkco
      have hkco2 : k ≤ co := by omega
      have HRW := Aside0.mk hrw
      clear hrw e4 e5 HLO'
      go_wp2_with (first | (go_at_call 103; refine HVB.out.mono ?_; rintro e w5 ⟨rfl, hd⟩; obtain ⟨m, rfl⟩ := hd; have HBQ := Aside0.mk (show Below wr.heap.size wr (wr.drewN m) from pw_below_drewN (Below.refl _ _) _)) | ((with_reducible refine gate_builtin (b := .append) (xs := #[.tmp 28, .tmp 31]) rfl ?_); at_builtin; go_must (refine Kd.R_append_rows (Kd.slice 3 (Kd.int .i64)) (Rr := (Kd.slice 3 (Kd.int .i64)).M wr base (fun k => k < wr.heap.size)) (w0 := wr) base rfl (.tmp 28) (.tmp 31) 22 36 (.slice none 0 0) 24 rfl Tryz.underlying22 infoS rfl (by decide) (by decide) _ [] (os.take k) _ _ _ (fun _ => True) (fun j => j < wr.heap.size) rfl rfl ?aO ?aR ?aK ?aN (fun _ _ => trivial) ?aB ?aS ?aL ?_; (case aO => exact R_made _ _ _ _ (Nat.le_trans hb0 BW.out.size)); (case aR => exact (rows_take (HLO.out.symm ▸ HRW.out) (by have := HLO.out; omega)).imp_ (below_alloc HBQ.out _) (fun _ _ h => h)); (case aK => exact fun _ _ h => (Kd.slice 3 (Kd.int .i64)).M_move (fun j hj => (below_alloc HBQ.out _).block j hj) h); (case aN => exact fun j (hj : j < wr.heap.size) => ⟨trivial, fun e => Nat.lt_irrefl _ ((show j = wr.heap.size from Option.some.inj e) ▸ hj)⟩); (case aB => exact (below_alloc HBQ.out _).mono (Nat.le_trans hb0 BW.out.size)); (case aS => exact Nat.le_trans (Nat.le_trans hb0 BW.out.size) (below_alloc HBQ.out _).size); (case aL => first | (simp; done) | (simp; omega)); intro v7 w7 ho7 hb7 hg7 hat7; have hne7 := own_grow (N := wr.heap.size) hat7 (fun j e => Nat.le_of_eq (show wr.heap.size = j from Option.some.inj e)) (below_alloc HBQ.out _).size; have HB7 := Aside0.mk ((below_alloc HBQ.out _).grown hg7 (below_alloc HBQ.out _).size (fun j e => Nat.le_of_eq (show wr.heap.size = j from Option.some.inj e))); have HO7 := Aside0.mk ho7; have HNE7 := Aside0.mk hne7; clear ho7 hb7 hg7 hat7 hne7)) | ((with_reducible refine gate_builtin (b := .append) (xs := #[.tmp 32, .tmp 34]) rfl ?_); at_builtin; go_must (refine Kd.R_append (Kd.slice 3 (Kd.int .i64)) (w0 := wr) base rfl (.tmp 32) (.tmp 34) 22 36 (.slice none 0 0) 24 rfl Tryz.underlying22 infoS rfl (by decide) (by decide) v7 ([] ++ os.take k) x [.slice A1 x.length c1] (fun _ => True) (fun j => j < wr.heap.size) rfl rfl ?bP ?bN (fun _ _ => trivial) HO7.out ?bB ?bS ?bL ?_; (case bP => exact (Kd.slice 3 (Kd.int .i64)).M_move (fun j hj => HB7.out.block j hj) HM1.out); (case bN => exact fun j (hj : j < wr.heap.size) => ⟨trivial, fun e => by have := HNE7.out j e.symm; omega⟩); (case bB => exact HB7.out.mono (Nat.le_trans hb0 BW.out.size)); (case bS => exact Nat.le_trans (Nat.le_trans hb0 BW.out.size) HB7.out.size); (case bL => first | (simp; done) | (simp; omega)); intro v8 w8 ho8 hb8 hg8 hat8; have hne8 := own_grow (N := wr.heap.size) hat8 HNE7.out HB7.out.size; have HB8 := Aside0.mk (HB7.out.grown hg8 HB7.out.size HNE7.out); have HO8 := Aside0.mk ho8; have HNE8 := Aside0.mk hne8; clear ho8 hb8 hg8 hat8 hne8)) | ((with_reducible refine gate_builtin (b := .append) (xs := #[.tmp 36, .tmp 39]) rfl ?_); at_builtin; go_must (refine Kd.R_append_rows (Kd.slice 3 (Kd.int .i64)) (Rr := (Kd.slice 3 (Kd.int .i64)).M wr base (fun k => k < wr.heap.size)) (w0 := wr) base rfl (.tmp 36) (.tmp 39) 22 36 (.slice none 0 0) 24 rfl Tryz.underlying22 infoS rfl (by decide) (by decide) v8 ([] ++ os.take k ++ [x]) (os.drop k) _ _ _ (fun _ => True) (fun j => j < wr.heap.size) rfl rfl HO8.out ?cR ?cK ?cN (fun _ _ => trivial) ?cB ?cS ?cL ?_; (case cR => have hl := HLO.out; have h := rows_drop (m := k) (c := co) (hl.symm ▸ HRW.out) (by omega) (by omega); rw [if_neg (by omega), hl] at h; have h9 := h.imp_ HB8.out (fun _ _ h => h); rw [show (Kd.slice 3 (Kd.int .i64)).sz = 1 from rfl, Nat.mul_one] at h9; exact h9); (case cK => exact fun _ _ h => (Kd.slice 3 (Kd.int .i64)).M_move (fun j hj => HB8.out.block j hj) h); (case cN => exact fun j (hj : j < wr.heap.size) => ⟨trivial, fun e => by have := HNE8.out j e.symm; omega⟩); (case cB => exact HB8.out.mono (Nat.le_trans hb0 BW.out.size)); (case cS => exact Nat.le_trans (Nat.le_trans hb0 BW.out.size) HB8.out.size); (case cL => first | (simp; done) | (simp; omega)); intro v9 w9 ho9 hb9 hg9 hat9; have hne9 := own_grow (N := wr.heap.size) hat9 HNE8.out HB8.out.size; have HB9 := Aside0.mk (HB8.out.grown hg9 HB8.out.size HNE8.out); have HO9 := Aside0.mk ho9; have HNE9 := Aside0.mk hne9; clear ho9 hb9 hg9 hat9 hne9)))
      have hins := insP_at befB os x [] k (by have := HLO.out; omega) HA.out (.inr (by rw [HYY.out]; exact HBF.out))
      have ho9 := HO9.out
      rw [List.nil_append, hins, ← HST.out] at ho9
      obtain ⟨A9, c9, rfl⟩ := Kd.R_slice ho9
      have hl9 : (srtP befB (xs.take (kk + 1))).length = kk + 1 := by rw [HL.out, List.length_take]; have := HN.out; omega
      rw [hl9] at ho9 ⊢
      have HO10 := Aside0.mk ho9
      clear ho9 hins
      go_roundg (N - (kk + 1))
      case measure => omega
      case rel =>
       exact ⟨kk + 1, by omega, by omega, by go_num, A9, c9, rfl, ⟨Below.trans BW.out (HB9.out.mono BW.out.size)⟩, ⟨fun j hj => Nat.le_trans BW.out.size (HNE9.out j (by rw [hl9]; exact hj))⟩, HO10⟩
    ·obtain rfl : k = kk := by omega
     obtain ⟨_, _, he3, hkco, hrw⟩ := R_rowsM HO.out
     have HLO' := HLO.out
     injection he3 with e4 e6 e5
     clear e6
     rw [← e4, HLO'] at hrw
     rw [← e5, HLO'] at hkco
     have HRW := Aside0.mk hrw
     have hk0 : (0 : Int) ≤ (k : Int) := by omega
     have HBQ := Aside0.mk (Below.refl wr.heap.size wr)
     clear hrw e4 e5 HLO' hkl hk hg2
     cases Ao with
     | none =>
      have h00 : k = 0 ∧ co = 0 := by
       obtain ⟨inner, hown, _⟩ := HO.out.2
       rcases hown.2 with ⟨he, h0⟩ | ⟨g, cap, cur, he, _⟩
       ·injection he with _ e1 e2
        exact ⟨e1, e2⟩
       ·injection he with e1 _ _
        cases e1
      obtain ⟨rfl, rfl⟩ := h00
      go_wp2_with (first | ((with_reducible refine gate_builtin (b := .append) (xs := #[.tmp 28, .tmp 31]) rfl ?_); at_builtin; go_must (refine Kd.R_append_rows (Kd.slice 3 (Kd.int .i64)) (Rr := (Kd.slice 3 (Kd.int .i64)).M wr base (fun k => k < wr.heap.size)) (w0 := wr) base rfl (.tmp 28) (.tmp 31) 22 36 (.slice none 0 0) 24 rfl Tryz.underlying22 infoS rfl (by decide) (by decide) _ [] (os.take 0) _ _ _ (fun _ => True) (fun j => j < wr.heap.size) rfl rfl ?aO ?aR ?aK ?aN (fun _ _ => trivial) ?aB ?aS ?aL ?_; (case aO => exact R_made _ _ _ _ (Nat.le_trans hb0 BW.out.size)); (case aR => exact (rows_take (HLO.out.symm ▸ HRW.out) (Nat.zero_le _)).imp_ (below_alloc HBQ.out _) (fun _ _ h => h)); (case aK => exact fun _ _ h => (Kd.slice 3 (Kd.int .i64)).M_move (fun j hj => (below_alloc HBQ.out _).block j hj) h); (case aN => exact fun j (hj : j < wr.heap.size) => ⟨trivial, fun e => Nat.lt_irrefl _ ((show j = wr.heap.size from Option.some.inj e) ▸ hj)⟩); (case aB => exact (below_alloc HBQ.out _).mono (Nat.le_trans hb0 BW.out.size)); (case aS => exact Nat.le_trans (Nat.le_trans hb0 BW.out.size) (below_alloc HBQ.out _).size); (case aL => first | (simp; done) | (simp; omega)); intro v7 w7 ho7 hb7 hg7 hat7; have hne7 := own_grow (N := wr.heap.size) hat7 (fun j e => Nat.le_of_eq (show wr.heap.size = j from Option.some.inj e)) (below_alloc HBQ.out _).size; have HB7 := Aside0.mk ((below_alloc HBQ.out _).grown hg7 (below_alloc HBQ.out _).size (fun j e => Nat.le_of_eq (show wr.heap.size = j from Option.some.inj e))); have HO7 := Aside0.mk ho7; have HNE7 := Aside0.mk hne7; clear ho7 hb7 hg7 hat7 hne7)) | ((with_reducible refine gate_builtin (b := .append) (xs := #[.tmp 32, .tmp 34]) rfl ?_); at_builtin; go_must (refine Kd.R_append (Kd.slice 3 (Kd.int .i64)) (w0 := wr) base rfl (.tmp 32) (.tmp 34) 22 36 (.slice none 0 0) 24 rfl Tryz.underlying22 infoS rfl (by decide) (by decide) v7 ([] ++ os.take 0) x [.slice A1 x.length c1] (fun _ => True) (fun j => j < wr.heap.size) rfl rfl ?bP ?bN (fun _ _ => trivial) HO7.out ?bB ?bS ?bL ?_; (case bP => exact (Kd.slice 3 (Kd.int .i64)).M_move (fun j hj => HB7.out.block j hj) HM1.out); (case bN => exact fun j (hj : j < wr.heap.size) => ⟨trivial, fun e => by have := HNE7.out j e.symm; omega⟩); (case bB => exact HB7.out.mono (Nat.le_trans hb0 BW.out.size)); (case bS => exact Nat.le_trans (Nat.le_trans hb0 BW.out.size) HB7.out.size); (case bL => first | (simp; done) | (simp; omega)); intro v8 w8 ho8 hb8 hg8 hat8; have hne8 := own_grow (N := wr.heap.size) hat8 HNE7.out HB7.out.size; have HB8 := Aside0.mk (HB7.out.grown hg8 HB7.out.size HNE7.out); have HO8 := Aside0.mk ho8; have HNE8 := Aside0.mk hne8; clear ho8 hb8 hg8 hat8 hne8)) | ((with_reducible refine gate_builtin (b := .append) (xs := #[.tmp 36, .tmp 39]) rfl ?_); at_builtin; go_must (refine Kd.R_append_rows (Kd.slice 3 (Kd.int .i64)) (Rr := (Kd.slice 3 (Kd.int .i64)).M wr base (fun k => k < wr.heap.size)) (w0 := wr) base rfl (.tmp 36) (.tmp 39) 22 36 (.slice none 0 0) 24 rfl Tryz.underlying22 infoS rfl (by decide) (by decide) v8 ([] ++ os.take 0 ++ [x]) (os.drop 0) _ _ _ (fun _ => True) (fun j => j < wr.heap.size) rfl rfl HO8.out ?cR ?cK ?cN (fun _ _ => trivial) ?cB ?cS ?cL ?_; (case cR => exact ⟨by have h := HLO.out; rw [List.drop_zero, h], Nat.zero_le _, fun h => absurd h (Nat.lt_irrefl _)⟩); (case cK => exact fun _ _ h => (Kd.slice 3 (Kd.int .i64)).M_move (fun j hj => HB8.out.block j hj) h); (case cN => exact fun j (hj : j < wr.heap.size) => ⟨trivial, fun e => by have := HNE8.out j e.symm; omega⟩); (case cB => exact HB8.out.mono (Nat.le_trans hb0 BW.out.size)); (case cS => exact Nat.le_trans (Nat.le_trans hb0 BW.out.size) HB8.out.size); (case cL => first | (simp; done) | (simp; omega)); intro v9 w9 ho9 hb9 hg9 hat9; have hne9 := own_grow (N := wr.heap.size) hat9 HNE8.out HB8.out.size; have HB9 := Aside0.mk (HB8.out.grown hg9 HB8.out.size HNE8.out); have HO9 := Aside0.mk ho9; have HNE9 := Aside0.mk hne9; clear ho9 hb9 hg9 hat9 hne9)))
      have hins := insP_at befB os x [] 0 (by have := HLO.out; omega) HA.out (.inl (by have := HLO.out; omega))
      have ho9 := HO9.out
      rw [List.nil_append, hins, ← HST.out] at ho9
      obtain ⟨A9, c9, rfl⟩ := Kd.R_slice ho9
      have hl9 : (srtP befB (xs.take (0 + 1))).length = 0 + 1 := by rw [HL.out, List.length_take]; have := HN.out; omega
      rw [hl9] at ho9 ⊢
      have HO10 := Aside0.mk ho9
      clear ho9 hins
      go_roundg (N - (0 + 1))
      case measure => omega
      case rel =>
       exact ⟨0 + 1, by omega, by omega, by go_num, A9, c9, rfl, ⟨Below.trans BW.out (HB9.out.mono BW.out.size)⟩, ⟨fun j hj => Nat.le_trans BW.out.size (HNE9.out j (by rw [hl9]; exact hj))⟩, HO10⟩
     | some ad2 =>
      by_cases hck : co = k
      ·subst hck
       go_wp2_with (first | ((with_reducible refine gate_builtin (b := .append) (xs := #[.tmp 28, .tmp 31]) rfl ?_); at_builtin; go_must (refine Kd.R_append_rows (Kd.slice 3 (Kd.int .i64)) (Rr := (Kd.slice 3 (Kd.int .i64)).M wr base (fun k => k < wr.heap.size)) (w0 := wr) base rfl (.tmp 28) (.tmp 31) 22 36 (.slice none 0 0) 24 rfl Tryz.underlying22 infoS rfl (by decide) (by decide) _ [] (os.take co) _ _ _ (fun _ => True) (fun j => j < wr.heap.size) rfl rfl ?aO ?aR ?aK ?aN (fun _ _ => trivial) ?aB ?aS ?aL ?_; (case aO => exact R_made _ _ _ _ (Nat.le_trans hb0 BW.out.size)); (case aR => exact (rows_take (HLO.out.symm ▸ HRW.out) (by have := HLO.out; omega)).imp_ (below_alloc HBQ.out _) (fun _ _ h => h)); (case aK => exact fun _ _ h => (Kd.slice 3 (Kd.int .i64)).M_move (fun j hj => (below_alloc HBQ.out _).block j hj) h); (case aN => exact fun j (hj : j < wr.heap.size) => ⟨trivial, fun e => Nat.lt_irrefl _ ((show j = wr.heap.size from Option.some.inj e) ▸ hj)⟩); (case aB => exact (below_alloc HBQ.out _).mono (Nat.le_trans hb0 BW.out.size)); (case aS => exact Nat.le_trans (Nat.le_trans hb0 BW.out.size) (below_alloc HBQ.out _).size); (case aL => first | (simp; done) | (simp; omega)); intro v7 w7 ho7 hb7 hg7 hat7; have hne7 := own_grow (N := wr.heap.size) hat7 (fun j e => Nat.le_of_eq (show wr.heap.size = j from Option.some.inj e)) (below_alloc HBQ.out _).size; have HB7 := Aside0.mk ((below_alloc HBQ.out _).grown hg7 (below_alloc HBQ.out _).size (fun j e => Nat.le_of_eq (show wr.heap.size = j from Option.some.inj e))); have HO7 := Aside0.mk ho7; have HNE7 := Aside0.mk hne7; clear ho7 hb7 hg7 hat7 hne7)) | ((with_reducible refine gate_builtin (b := .append) (xs := #[.tmp 32, .tmp 34]) rfl ?_); at_builtin; go_must (refine Kd.R_append (Kd.slice 3 (Kd.int .i64)) (w0 := wr) base rfl (.tmp 32) (.tmp 34) 22 36 (.slice none 0 0) 24 rfl Tryz.underlying22 infoS rfl (by decide) (by decide) v7 ([] ++ os.take co) x [.slice A1 x.length c1] (fun _ => True) (fun j => j < wr.heap.size) rfl rfl ?bP ?bN (fun _ _ => trivial) HO7.out ?bB ?bS ?bL ?_; (case bP => exact (Kd.slice 3 (Kd.int .i64)).M_move (fun j hj => HB7.out.block j hj) HM1.out); (case bN => exact fun j (hj : j < wr.heap.size) => ⟨trivial, fun e => by have := HNE7.out j e.symm; omega⟩); (case bB => exact HB7.out.mono (Nat.le_trans hb0 BW.out.size)); (case bS => exact Nat.le_trans (Nat.le_trans hb0 BW.out.size) HB7.out.size); (case bL => first | (simp; done) | (simp; omega)); intro v8 w8 ho8 hb8 hg8 hat8; have hne8 := own_grow (N := wr.heap.size) hat8 HNE7.out HB7.out.size; have HB8 := Aside0.mk (HB7.out.grown hg8 HB7.out.size HNE7.out); have HO8 := Aside0.mk ho8; have HNE8 := Aside0.mk hne8; clear ho8 hb8 hg8 hat8 hne8)) | ((with_reducible refine gate_builtin (b := .append) (xs := #[.tmp 36, .tmp 39]) rfl ?_); at_builtin; go_must (refine Kd.R_append_rows (Kd.slice 3 (Kd.int .i64)) (Rr := (Kd.slice 3 (Kd.int .i64)).M wr base (fun k => k < wr.heap.size)) (w0 := wr) base rfl (.tmp 36) (.tmp 39) 22 36 (.slice none 0 0) 24 rfl Tryz.underlying22 infoS rfl (by decide) (by decide) v8 ([] ++ os.take co ++ [x]) (os.drop co) _ _ _ (fun _ => True) (fun j => j < wr.heap.size) rfl rfl HO8.out ?cR ?cK ?cN (fun _ _ => trivial) ?cB ?cS ?cL ?_; (case cR => have hl := HLO.out; have h := rows_drop (m := co) (c := co) (hl.symm ▸ HRW.out) (by omega) (by omega); rw [if_pos rfl, hl, Nat.sub_self] at h; exact h.imp_ HB8.out (fun _ _ h => h)); (case cK => exact fun _ _ h => (Kd.slice 3 (Kd.int .i64)).M_move (fun j hj => HB8.out.block j hj) h); (case cN => exact fun j (hj : j < wr.heap.size) => ⟨trivial, fun e => by have := HNE8.out j e.symm; omega⟩); (case cB => exact HB8.out.mono (Nat.le_trans hb0 BW.out.size)); (case cS => exact Nat.le_trans (Nat.le_trans hb0 BW.out.size) HB8.out.size); (case cL => first | (simp; done) | (simp; omega)); intro v9 w9 ho9 hb9 hg9 hat9; have hne9 := own_grow (N := wr.heap.size) hat9 HNE8.out HB8.out.size; have HB9 := Aside0.mk (HB8.out.grown hg9 HB8.out.size HNE8.out); have HO9 := Aside0.mk ho9; have HNE9 := Aside0.mk hne9; clear ho9 hb9 hg9 hat9 hne9)))
       have hins := insP_at befB os x [] co (by have := HLO.out; omega) HA.out (.inl (by have := HLO.out; omega))
       have ho9 := HO9.out
       rw [List.nil_append, hins, ← HST.out] at ho9
       obtain ⟨A9, c9, rfl⟩ := Kd.R_slice ho9
       have hl9 : (srtP befB (xs.take (co + 1))).length = co + 1 := by rw [HL.out, List.length_take]; have := HN.out; omega
       rw [hl9] at ho9 ⊢
       have HO10 := Aside0.mk ho9
       clear ho9 hins
       go_roundg (N - (co + 1))
       case measure => omega
       case rel =>
        exact ⟨co + 1, by omega, by omega, by go_num, A9, c9, rfl, ⟨Below.trans BW.out (HB9.out.mono BW.out.size)⟩, ⟨fun j hj => Nat.le_trans BW.out.size (HNE9.out j (by rw [hl9]; exact hj))⟩, HO10⟩
      ·skip
       go_wp2_with (first | ((with_reducible refine gate_builtin (b := .append) (xs := #[.tmp 28, .tmp 31]) rfl ?_); at_builtin; go_must (refine Kd.R_append_rows (Kd.slice 3 (Kd.int .i64)) (Rr := (Kd.slice 3 (Kd.int .i64)).M wr base (fun k => k < wr.heap.size)) (w0 := wr) base rfl (.tmp 28) (.tmp 31) 22 36 (.slice none 0 0) 24 rfl Tryz.underlying22 infoS rfl (by decide) (by decide) _ [] (os.take k) _ _ _ (fun _ => True) (fun j => j < wr.heap.size) rfl rfl ?aO ?aR ?aK ?aN (fun _ _ => trivial) ?aB ?aS ?aL ?_; (case aO => exact R_made _ _ _ _ (Nat.le_trans hb0 BW.out.size)); (case aR => exact (rows_take (HLO.out.symm ▸ HRW.out) (by have := HLO.out; omega)).imp_ (below_alloc HBQ.out _) (fun _ _ h => h)); (case aK => exact fun _ _ h => (Kd.slice 3 (Kd.int .i64)).M_move (fun j hj => (below_alloc HBQ.out _).block j hj) h); (case aN => exact fun j (hj : j < wr.heap.size) => ⟨trivial, fun e => Nat.lt_irrefl _ ((show j = wr.heap.size from Option.some.inj e) ▸ hj)⟩); (case aB => exact (below_alloc HBQ.out _).mono (Nat.le_trans hb0 BW.out.size)); (case aS => exact Nat.le_trans (Nat.le_trans hb0 BW.out.size) (below_alloc HBQ.out _).size); (case aL => first | (simp; done) | (simp; omega)); intro v7 w7 ho7 hb7 hg7 hat7; have hne7 := own_grow (N := wr.heap.size) hat7 (fun j e => Nat.le_of_eq (show wr.heap.size = j from Option.some.inj e)) (below_alloc HBQ.out _).size; have HB7 := Aside0.mk ((below_alloc HBQ.out _).grown hg7 (below_alloc HBQ.out _).size (fun j e => Nat.le_of_eq (show wr.heap.size = j from Option.some.inj e))); have HO7 := Aside0.mk ho7; have HNE7 := Aside0.mk hne7; clear ho7 hb7 hg7 hat7 hne7)) | ((with_reducible refine gate_builtin (b := .append) (xs := #[.tmp 32, .tmp 34]) rfl ?_); at_builtin; go_must (refine Kd.R_append (Kd.slice 3 (Kd.int .i64)) (w0 := wr) base rfl (.tmp 32) (.tmp 34) 22 36 (.slice none 0 0) 24 rfl Tryz.underlying22 infoS rfl (by decide) (by decide) v7 ([] ++ os.take k) x [.slice A1 x.length c1] (fun _ => True) (fun j => j < wr.heap.size) rfl rfl ?bP ?bN (fun _ _ => trivial) HO7.out ?bB ?bS ?bL ?_; (case bP => exact (Kd.slice 3 (Kd.int .i64)).M_move (fun j hj => HB7.out.block j hj) HM1.out); (case bN => exact fun j (hj : j < wr.heap.size) => ⟨trivial, fun e => by have := HNE7.out j e.symm; omega⟩); (case bB => exact HB7.out.mono (Nat.le_trans hb0 BW.out.size)); (case bS => exact Nat.le_trans (Nat.le_trans hb0 BW.out.size) HB7.out.size); (case bL => first | (simp; done) | (simp; omega)); intro v8 w8 ho8 hb8 hg8 hat8; have hne8 := own_grow (N := wr.heap.size) hat8 HNE7.out HB7.out.size; have HB8 := Aside0.mk (HB7.out.grown hg8 HB7.out.size HNE7.out); have HO8 := Aside0.mk ho8; have HNE8 := Aside0.mk hne8; clear ho8 hb8 hg8 hat8 hne8)) | ((with_reducible refine gate_builtin (b := .append) (xs := #[.tmp 36, .tmp 39]) rfl ?_); at_builtin; go_must (refine Kd.R_append_rows (Kd.slice 3 (Kd.int .i64)) (Rr := (Kd.slice 3 (Kd.int .i64)).M wr base (fun k => k < wr.heap.size)) (w0 := wr) base rfl (.tmp 36) (.tmp 39) 22 36 (.slice none 0 0) 24 rfl Tryz.underlying22 infoS rfl (by decide) (by decide) v8 ([] ++ os.take k ++ [x]) (os.drop k) _ _ _ (fun _ => True) (fun j => j < wr.heap.size) rfl rfl HO8.out ?cR ?cK ?cN (fun _ _ => trivial) ?cB ?cS ?cL ?_; (case cR => have hl := HLO.out; have h := rows_drop (m := k) (c := co) (hl.symm ▸ HRW.out) (by omega) (by omega); rw [if_neg (by omega), hl] at h; have h9 := h.imp_ HB8.out (fun _ _ h => h); rw [show (Kd.slice 3 (Kd.int .i64)).sz = 1 from rfl, Nat.mul_one] at h9; rw [Nat.sub_self] at h9; exact h9); (case cK => exact fun _ _ h => (Kd.slice 3 (Kd.int .i64)).M_move (fun j hj => HB8.out.block j hj) h); (case cN => exact fun j (hj : j < wr.heap.size) => ⟨trivial, fun e => by have := HNE8.out j e.symm; omega⟩); (case cB => exact HB8.out.mono (Nat.le_trans hb0 BW.out.size)); (case cS => exact Nat.le_trans (Nat.le_trans hb0 BW.out.size) HB8.out.size); (case cL => first | (simp; done) | (simp; omega)); intro v9 w9 ho9 hb9 hg9 hat9; have hne9 := own_grow (N := wr.heap.size) hat9 HNE8.out HB8.out.size; have HB9 := Aside0.mk (HB8.out.grown hg9 HB8.out.size HNE8.out); have HO9 := Aside0.mk ho9; have HNE9 := Aside0.mk hne9; clear ho9 hb9 hg9 hat9 hne9)))
       have hins := insP_at befB os x [] k (by have := HLO.out; omega) HA.out (.inl (by have := HLO.out; omega))
       have ho9 := HO9.out
       rw [List.nil_append, hins, ← HST.out] at ho9
       obtain ⟨A9, c9, rfl⟩ := Kd.R_slice ho9
       have hl9 : (srtP befB (xs.take (k + 1))).length = k + 1 := by rw [HL.out, List.length_take]; have := HN.out; omega
       rw [hl9] at ho9 ⊢
       have HO10 := Aside0.mk ho9
       clear ho9 hins
       go_roundg (N - (k + 1))
       case measure => omega
       case rel =>
        exact ⟨k + 1, by omega, by omega, by go_num, A9, c9, rfl, ⟨Below.trans BW.out (HB9.out.mono BW.out.size)⟩, ⟨fun j hj => Nat.le_trans BW.out.size (HNE9.out j (by rw [hl9]; exact hj))⟩, HO10⟩
  ·have hltz : ¬ (kk : Int) < (N : Int) := by omega
   have : kk = N := by omega
   subst this
   have ho := HO.out
   rw [HN.out, List.take_length] at ho
   have HO' := Aside0.mk ho
   clear ho
   go_wp2
   go_ret
   exact ⟨_, rfl, (by have := HO'.out; rw [← HN.out] at this; exact this), BW.out⟩
end Go.Proofs.YtnncjnjfdhbddaaGreat.Z
namespace Go.Proofs.YtnncjnjfdhbddaaGreat.Z
open Go.RowKit Go.Proofs.YtnncjnjfdhbddaaGreatW.PrintWords Go.Proofs.YtnncjnjfdhbddaaGreatW.PrintLast Go.Proofs.YtnncjnjfdhbddaaGreatW.PrintMore
attribute [local go_sem] max2_int min2_int max_two min_two max_three min_three max_four min_four
set_option linter.unusedVariables false
set_option linter.unusedSimpArgs false
set_option maxRecDepth 100000 in
set_option maxHeartbeats 1000000 in
theorem voList_any (m : Nat) (hm : m < 2 ^ 62) (w : World) :
  Calls Tryz.prog 96 #[.int .i64 (m : Int)] w fun e w' => ∃ v : Value, e = .returned v ∧ Kd.R (Kd.int .i64) 3 w' w.heap.size (fun _ => True) v (setI m) ∧ Below w.heap.size w w' := by
 have HM := Aside0.mk hm
 clear hm
 go_enter Tryz.func96, Tryz.ntmps96
 go_wp2
 go_loopg [3, 4] 62 (fun gg v3 s4 wr => ∃ kk : Nat, kk ≤ 62 ∧ 62 - kk ≤ gg ∧ s4 = .int .i64 kk ∧ Aside0 (Below w.heap.size w wr) ∧ Aside0 (Kd.R (Kd.int .i64) 3 wr w.heap.size (fun _ => True) v3 (setUpto m kk)))
 case atStart => exact ⟨0, by omega, by omega, rfl, ⟨Below.refl _ _⟩, ⟨Kd.R_nil _ _ _ _ _⟩⟩
 case round =>
  obtain ⟨kk, hkk, hg, rfl, BW, HO⟩ := hrel
  have h0 : (0 : Int) ≤ (kk : Int) := by omega
  have hlen := setUpto_len m kk
  have hz : kk = 62 → m >>> kk = 0 := fun e => by rw [e, Nat.shiftRight_eq_div_pow]; exact Nat.div_eq_of_lt HM.out
  have hb1 := shift_bit m kk
  have h1 := shiftI m kk
  have hend := setUpto_all (m := m) (kk := kk)
  generalize m >>> kk = q at hz hb1 h1 hend
  have HE := Aside0.mk hend
  clear hend
  by_cases hp : q = 0
  ·have hpd : decide (0 < q) = false := decide_eq_false (by omega)
   have HQ := Aside0.mk hp
   clear hp hz hb1
   go_wp2
   go_ret
   exact ⟨_, rfl, by rw [← HE.out HQ.out hkk]; exact HO.out, BW.out⟩
  ·have hlt : kk < 62 := by
    rcases Nat.lt_or_ge kk 62 with h | h
    ·exact h
    ·exact absurd (hz (by omega)) hp
   have hpd : decide (0 < q) = true := decide_eq_true (by omega)
   clear hp hz HE
   cases hbit : m.testBit kk with
   | false =>
    rw [hbit, if_neg (by simp)] at hb1
    have hb2 : (q : Int) % 2 = 0 := by omega
    have hb3 : Int.tmod (q : Int) 2 = 0 := by rw [Int.tmod_eq_emod_of_nonneg (by omega)]; exact hb2
    have HB := Aside0.mk hbit
    clear hbit
    go_wp2
    go_roundg (62 - (kk + 1))
    case measure => omega
    case rel => exact ⟨kk + 1, by omega, by omega, by go_num, BW, ⟨by rw [setUpto_no HB.out]; exact HO.out⟩⟩
   | true =>
    rw [hbit, if_pos rfl] at hb1
    have hb2 : (q : Int) % 2 = 1 := by omega
    have hb3 : Int.tmod (q : Int) 2 = 1 := by rw [Int.tmod_eq_emod_of_nonneg (by omega)]; exact hb2
    have HB := Aside0.mk hbit
    clear hbit
    go_wp2_with ((with_reducible refine gate_builtin (b := .append) (xs := #[.tmp 16, .tmp 18]) rfl ?_); at_builtin; refine Kd.R_append (Kd.int .i64) (w0 := w) w.heap.size rfl (.tmp 16) (.tmp 18) 36 3 (.int .i64 0) 8 rfl Tryz.underlying36 infoI rfl (by decide) (by omega) u3 (setUpto m kk) (kk : Int) [.int .i64 (kk : Int)] (fun _ => True) (fun _ => False) rfl rfl rfl (fun _ hk => hk.elim) (fun _ _ => trivial) HO.out BW.out BW.out.size (by omega) ?_; intro v1 w1 ho hb hg hat; have HO1 := Aside0.mk ho; have HB1 := Aside0.mk hb; clear ho hb hg hat)
    go_roundg (62 - (kk + 1))
    case measure => omega
    case rel => exact ⟨kk + 1, by omega, by omega, by go_num, HB1, ⟨by rw [setUpto_yes HB.out]; exact HO1.out⟩⟩
def spec_voList.f (a0 : Int) : Option (List Int) := if 0 ≤ a0 ∧ a0 < 2 ^ 62 then some (setI a0.toNat) else none
theorem spec_voList.calls (a0 : Int) (r : List Int) (w : World) (h : spec_voList.f a0 = some r) :
  Calls Tryz.prog 96 #[.int .i64 a0] w fun e w' => ∃ v0_ : Value, e = .returned (v0_) ∧ Kd.R (Kd.int .i64) 3 w' w.heap.size (fun _ => True) v0_ r ∧ Below w.heap.size w w' := by
 unfold spec_voList.f at h
 split at h
 ·obtain rfl := Option.some.inj h
  obtain ⟨m, rfl⟩ := Int.eq_ofNat_of_zero_le (by omega : 0 ≤ a0)
  exact voList_any m (by omega) w
 ·cases h
end Go.Proofs.YtnncjnjfdhbddaaGreat.Z
