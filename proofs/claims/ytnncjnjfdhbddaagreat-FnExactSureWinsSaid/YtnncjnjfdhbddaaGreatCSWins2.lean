import Derived.Test.YtnncjnjfdhbddaaGreatCSWins1
import Derived.Deep.DeepMust
import Derived.Sort.Grow
import Derived.Shelf.SlGeneric
import Derived.Shelf.SlSortCmp.NoneTotal
import Derived.Ground.SlsfProg
import Derived.Test.YtnncjnjfdhbddaaGreatProg
namespace Go.Proofs.YtnncjnjfdhbddaaGreat.Z
open Go.RowKit Go.Proofs.YtnncjnjfdhbddaaGreatW.PrintWords Go.Proofs.YtnncjnjfdhbddaaGreatW.PrintLast Go.Proofs.YtnncjnjfdhbddaaGreatW.PrintMore
attribute [local go_sem] max2_int min2_int max_two min_two max_three min_three max_four min_four
set_option linter.unusedVariables false
set_option linter.unusedSimpArgs false
def impl_votes_isSwing.f (a0_0 : Int) (l0_1 : List Bool) (a1 : Int) (a2 : Int) : Option (Bool) := (impl_has.f a1 a2).bind fun t665 => (if t665 = true then (some false) else (if 0 ≤ a1 then (if a1 < (l0_1.length : Int) then (if rdOf false l0_1 a1 = true then (some false) else (if 0 ≤ a2 then (if 0 ≤ (Go.bits .or .i64 a1 (shl .i64 1 a2)) then (if (Go.bits .or .i64 a1 (shl .i64 1 a2)) < (l0_1.length : Int) then (some (rdOf false l0_1 (Go.bits .or .i64 a1 (shl .i64 1 a2)))) else (none)) else (none)) else (none))) else (none)) else (none)))
set_option maxHeartbeats 8000000 in
set_option maxRecDepth 100000 in
theorem impl_votes_isSwing.calls (a0_0 : Int) (A0_1 : Option Addr) (c0_1 : Nat) (l0_1 : List Bool) (a1 : Int) (a2 : Int) (r : Bool) (w : World) (hr0_1 : Kd.C Kd.bool w A0_1 l0_1.length l0_1) (hc0_1 : l0_1.length ≤ c0_1) (h : impl_votes_isSwing.f a0_0 l0_1 a1 a2 = some r) :
  Calls Tryz.prog 155 #[.agg #[.int .i64 a0_0, .slice A0_1 l0_1.length c0_1], .int .i64 a1, .int .i64 a2] w fun e w' => e = .returned (.bool r) ∧ Below w.heap.size w w' := by
 have hu68 := Tryz.underlying68
 have HR0_1 := Aside0.mk hr0_1
 have HC0_1 := Aside0.mk hc0_1
 clear hr0_1 hc0_1
 have HB := Aside0.mk (Below.refl w.heap.size w)
 have H : ((impl_has.f a1 a2).bind fun t665 => (if t665 = true then (some false) else (if 0 ≤ a1 then (if a1 < (l0_1.length : Int) then (if rdOf false l0_1 a1 = true then (some false) else (if 0 ≤ a2 then (if 0 ≤ (Go.bits .or .i64 a1 (shl .i64 1 a2)) then (if (Go.bits .or .i64 a1 (shl .i64 1 a2)) < (l0_1.length : Int) then (some (rdOf false l0_1 (Go.bits .or .i64 a1 (shl .i64 1 a2)))) else (none)) else (none)) else (none))) else (none)) else (none)))) = some r := h
 clear h
 replace H := Option.bind_eq_some_iff.mp H
 obtain ⟨t665, A40, H⟩ := H
 replace H : (if t665 = true then (some false) else (if 0 ≤ a1 then (if a1 < (l0_1.length : Int) then (if rdOf false l0_1 a1 = true then (some false) else (if 0 ≤ a2 then (if 0 ≤ (Go.bits .or .i64 a1 (shl .i64 1 a2)) then (if (Go.bits .or .i64 a1 (shl .i64 1 a2)) < (l0_1.length : Int) then (some (rdOf false l0_1 (Go.bits .or .i64 a1 (shl .i64 1 a2)))) else (none)) else (none)) else (none))) else (none)) else (none))) = some r := H
 have A4 := Aside0.mk A40
 clear A40
 by_cases c5 : t665 = true
 ·subst c5
  have H1 : (some false) = some r := by rw [if_pos rfl] at H; exact H
  clear H
  have H := H1
  clear H1
  obtain rfl := Option.some.inj H
  go_enter Tryz.func155, Tryz.ntmps155
  go_wp2_with (first | ((with_reducible refine gate_dst (N := 3) rfl ?_); refine box_event ?hg (N := 3) ?hd (cs := #[.int .i64 a0_0, .slice A0_1 l0_1.length c0_1]) (t := 68) ?hr ?_; (case hd => rfl); (case hg => rfl); (case hr => first | (go_simp; done) | (go_simp; rfl)); intro gb664 hg w6 hbox hb; have n0_ := Aside0.mk (below_step (by repeat (first | (with_reducible first | exact HB.out | apply below_alloc | apply pw_below_drewN | apply below_drew1) | exact HB.out)) hb); have n1_ := Aside0.mk (hbox); have n2_ := Aside0.mk ((by rw [hg]; exact (below_size (by repeat (first | (with_reducible first | exact HB.out | apply below_alloc | apply pw_below_drewN | apply below_drew1) | exact HB.out))) : w.heap.size ≤ gb664)); have n3_ := Aside0.mk ((by rw [hg]; exact (below_size (by repeat (first | (with_reducible first | exact HB.out | apply below_alloc | apply pw_below_drewN | apply below_drew1) | exact HB.out))) : w.heap.size ≤ gb664)); clear HB; have HB := n0_; have BK664 := n1_; have GW664 := n2_; have GE664 := n3_; clear n0_ n1_ n2_ n3_; clear hb hbox hg) | (go_at_call 118; (with_reducible refine (impl_has.calls a1 a2 true _ A4.out).mono ?_); rintro e w' ⟨rfl, ⟨nd, rfl⟩⟩; (try first | exact ⟨rfl, _, World.drewN_drewN _ _ _⟩ | exact ⟨rfl, _, Eq.trans (World.drewN_drewN _ _ _) (congrArg (World.drewN _) (Nat.add_assoc _ _ _))⟩)))
  repeat (go_quiet (first | ((with_reducible refine gate_dst (N := 3) rfl ?_); refine box_event ?hg (N := 3) ?hd (cs := #[.int .i64 a0_0, .slice A0_1 l0_1.length c0_1]) (t := 68) ?hr ?_; (case hd => rfl); (case hg => rfl); (case hr => first | (go_simp; done) | (go_simp; rfl)); intro gb664 hg w6 hbox hb; have n0_ := Aside0.mk (below_step (by repeat (first | (with_reducible first | exact HB.out | apply below_alloc | apply pw_below_drewN | apply below_drew1) | exact HB.out)) hb); have n1_ := Aside0.mk (hbox); have n2_ := Aside0.mk ((by rw [hg]; exact (below_size (by repeat (first | (with_reducible first | exact HB.out | apply below_alloc | apply pw_below_drewN | apply below_drew1) | exact HB.out))) : w.heap.size ≤ gb664)); have n3_ := Aside0.mk ((by rw [hg]; exact (below_size (by repeat (first | (with_reducible first | exact HB.out | apply below_alloc | apply pw_below_drewN | apply below_drew1) | exact HB.out))) : w.heap.size ≤ gb664)); clear HB; have HB := n0_; have BK664 := n1_; have GW664 := n2_; have GE664 := n3_; clear n0_ n1_ n2_ n3_; clear hb hbox hg) | (go_at_call 118; (with_reducible refine (impl_has.calls a1 a2 true _ A4.out).mono ?_); rintro e w' ⟨rfl, ⟨nd, rfl⟩⟩; (try first | exact ⟨rfl, _, World.drewN_drewN _ _ _⟩ | exact ⟨rfl, _, Eq.trans (World.drewN_drewN _ _ _) (congrArg (World.drewN _) (Nat.add_assoc _ _ _))⟩))); try go_wp2_with (first | ((with_reducible refine gate_dst (N := 3) rfl ?_); refine box_event ?hg (N := 3) ?hd (cs := #[.int .i64 a0_0, .slice A0_1 l0_1.length c0_1]) (t := 68) ?hr ?_; (case hd => rfl); (case hg => rfl); (case hr => first | (go_simp; done) | (go_simp; rfl)); intro gb664 hg w6 hbox hb; have n0_ := Aside0.mk (below_step (by repeat (first | (with_reducible first | exact HB.out | apply below_alloc | apply pw_below_drewN | apply below_drew1) | exact HB.out)) hb); have n1_ := Aside0.mk (hbox); have n2_ := Aside0.mk ((by rw [hg]; exact (below_size (by repeat (first | (with_reducible first | exact HB.out | apply below_alloc | apply pw_below_drewN | apply below_drew1) | exact HB.out))) : w.heap.size ≤ gb664)); have n3_ := Aside0.mk ((by rw [hg]; exact (below_size (by repeat (first | (with_reducible first | exact HB.out | apply below_alloc | apply pw_below_drewN | apply below_drew1) | exact HB.out))) : w.heap.size ≤ gb664)); clear HB; have HB := n0_; have BK664 := n1_; have GW664 := n2_; have GE664 := n3_; clear n0_ n1_ n2_ n3_; clear hb hbox hg) | (go_at_call 118; (with_reducible refine (impl_has.calls a1 a2 true _ A4.out).mono ?_); rintro e w' ⟨rfl, ⟨nd, rfl⟩⟩; (try first | exact ⟨rfl, _, World.drewN_drewN _ _ _⟩ | exact ⟨rfl, _, Eq.trans (World.drewN_drewN _ _ _) (congrArg (World.drewN _) (Nat.add_assoc _ _ _))⟩))))
  go_ret
  exact ⟨by first | rfl | (simp [errW_none, errW_some] <;> rfl) | (simp [*, errW_none, errW_some] <;> rfl), by repeat (first | (with_reducible first | exact HB.out | apply below_alloc | apply pw_below_drewN | apply below_drew1 | refine below_set ?_ GE664.out) | exact HB.out)⟩
 ·replace c5 := Bool.eq_false_iff.mpr c5
  subst c5
  have H1 : (if 0 ≤ a1 then (if a1 < (l0_1.length : Int) then (if rdOf false l0_1 a1 = true then (some false) else (if 0 ≤ a2 then (if 0 ≤ (Go.bits .or .i64 a1 (shl .i64 1 a2)) then (if (Go.bits .or .i64 a1 (shl .i64 1 a2)) < (l0_1.length : Int) then (some (rdOf false l0_1 (Go.bits .or .i64 a1 (shl .i64 1 a2)))) else (none)) else (none)) else (none))) else (none)) else (none)) = some r := by rw [if_neg (show ¬ (false = true) by decide)] at H; exact H
  clear H
  have H := H1
  clear H1
  by_cases c7 : 0 ≤ a1
  ·rw [if_pos c7] at H
   have c7b0 : decide (0 ≤ a1) = true := decide_eq_true c7
   clear c7
   by_cases c8 : a1 < (l0_1.length : Int)
   ·rw [if_pos c8] at H
    have c8b0 : decide (a1 < (l0_1.length : Int)) = true := decide_eq_true c8
    clear c8
    obtain ⟨bq9, hbq9⟩ : ∃ b_ : Bool, b_ = (rdOf false l0_1 a1) := ⟨_, rfl⟩
    replace H : (if bq9 = true then (some false) else (if 0 ≤ a2 then (if 0 ≤ (Go.bits .or .i64 a1 (shl .i64 1 a2)) then (if (Go.bits .or .i64 a1 (shl .i64 1 a2)) < (l0_1.length : Int) then (some (rdOf false l0_1 (Go.bits .or .i64 a1 (shl .i64 1 a2)))) else (none)) else (none)) else (none))) = some r := by rw [← hbq9] at H; exact H
    have Nbq9 := Aside0.mk hbq9
    clear hbq9
    by_cases c10 : bq9 = true
    ·subst c10
     have H1 : (some false) = some r := by rw [if_pos rfl] at H; exact H
     clear H
     have H := H1
     clear H1
     obtain rfl := Option.some.inj H
     go_enter Tryz.func155, Tryz.ntmps155
     go_wp2_with (first | ((with_reducible refine gate_dst (N := 3) rfl ?_); refine box_event ?hg (N := 3) ?hd (cs := #[.int .i64 a0_0, .slice A0_1 l0_1.length c0_1]) (t := 68) ?hr ?_; (case hd => rfl); (case hg => rfl); (case hr => first | (go_simp; done) | (go_simp; rfl)); intro gb664 hg w11 hbox hb; have n0_ := Aside0.mk (below_step (by repeat (first | (with_reducible first | exact HB.out | apply below_alloc | apply pw_below_drewN | apply below_drew1) | exact HB.out)) hb); have n1_ := Aside0.mk (hbox); have n2_ := Aside0.mk ((by rw [hg]; exact (below_size (by repeat (first | (with_reducible first | exact HB.out | apply below_alloc | apply pw_below_drewN | apply below_drew1) | exact HB.out))) : w.heap.size ≤ gb664)); have n3_ := Aside0.mk ((by rw [hg]; exact (below_size (by repeat (first | (with_reducible first | exact HB.out | apply below_alloc | apply pw_below_drewN | apply below_drew1) | exact HB.out))) : w.heap.size ≤ gb664)); clear HB; have HB := n0_; have BK664 := n1_; have GW664 := n2_; have GE664 := n3_; clear n0_ n1_ n2_ n3_; clear hb hbox hg) | (go_at_call 118; (with_reducible refine (impl_has.calls a1 a2 false _ A4.out).mono ?_); rintro e w' ⟨rfl, ⟨nd, rfl⟩⟩; (try first | exact ⟨rfl, _, World.drewN_drewN _ _ _⟩ | exact ⟨rfl, _, Eq.trans (World.drewN_drewN _ _ _) (congrArg (World.drewN _) (Nat.add_assoc _ _ _))⟩); have hcz12_0 : w11.cell? ⟨gb664, 0, none⟩ = some (.int .i64 a0_0) := (blk_cell BK664.out 0).trans rfl; have hcz12_1 : w11.cell? ⟨gb664, 1, none⟩ = some (.slice A0_1 l0_1.length c0_1) := (blk_cell BK664.out 1).trans rfl; have hfz12_0 := blk_frozen BK664.out 0; have hfz12_1 := blk_frozen BK664.out 1; have p666 : 0 ≤ (a1 : Int) := of_decide_eq_true (by first | (with_reducible assumption) | assumption); have q666 : a1 < (l0_1.length : Int) := of_decide_eq_true (by first | (with_reducible assumption) | assumption); obtain ⟨ad666, e666, hx666_0⟩ := Kd.at_bool HR0_1.out a1 p666 q666; (try rw [← Nbq9.out] at hx666_0); cases e666; replace hx666_0 := (HB.out.cell (World.block_lt_of_cell? w _ hx666_0)).trans hx666_0; replace p666 := eq_true p666; replace q666 := eq_true q666))
     repeat (go_quiet (first | ((with_reducible refine gate_dst (N := 3) rfl ?_); refine box_event ?hg (N := 3) ?hd (cs := #[.int .i64 a0_0, .slice A0_1 l0_1.length c0_1]) (t := 68) ?hr ?_; (case hd => rfl); (case hg => rfl); (case hr => first | (go_simp; done) | (go_simp; rfl)); intro gb664 hg w11 hbox hb; have n0_ := Aside0.mk (below_step (by repeat (first | (with_reducible first | exact HB.out | apply below_alloc | apply pw_below_drewN | apply below_drew1) | exact HB.out)) hb); have n1_ := Aside0.mk (hbox); have n2_ := Aside0.mk ((by rw [hg]; exact (below_size (by repeat (first | (with_reducible first | exact HB.out | apply below_alloc | apply pw_below_drewN | apply below_drew1) | exact HB.out))) : w.heap.size ≤ gb664)); have n3_ := Aside0.mk ((by rw [hg]; exact (below_size (by repeat (first | (with_reducible first | exact HB.out | apply below_alloc | apply pw_below_drewN | apply below_drew1) | exact HB.out))) : w.heap.size ≤ gb664)); clear HB; have HB := n0_; have BK664 := n1_; have GW664 := n2_; have GE664 := n3_; clear n0_ n1_ n2_ n3_; clear hb hbox hg) | (go_at_call 118; (with_reducible refine (impl_has.calls a1 a2 false _ A4.out).mono ?_); rintro e w' ⟨rfl, ⟨nd, rfl⟩⟩; (try first | exact ⟨rfl, _, World.drewN_drewN _ _ _⟩ | exact ⟨rfl, _, Eq.trans (World.drewN_drewN _ _ _) (congrArg (World.drewN _) (Nat.add_assoc _ _ _))⟩); have hcz12_0 : w11.cell? ⟨gb664, 0, none⟩ = some (.int .i64 a0_0) := (blk_cell BK664.out 0).trans rfl; have hcz12_1 : w11.cell? ⟨gb664, 1, none⟩ = some (.slice A0_1 l0_1.length c0_1) := (blk_cell BK664.out 1).trans rfl; have hfz12_0 := blk_frozen BK664.out 0; have hfz12_1 := blk_frozen BK664.out 1; have p666 : 0 ≤ (a1 : Int) := of_decide_eq_true (by first | (with_reducible assumption) | assumption); have q666 : a1 < (l0_1.length : Int) := of_decide_eq_true (by first | (with_reducible assumption) | assumption); obtain ⟨ad666, e666, hx666_0⟩ := Kd.at_bool HR0_1.out a1 p666 q666; (try rw [← Nbq9.out] at hx666_0); cases e666; replace hx666_0 := (HB.out.cell (World.block_lt_of_cell? w _ hx666_0)).trans hx666_0; replace p666 := eq_true p666; replace q666 := eq_true q666)); try go_wp2_with (first | ((with_reducible refine gate_dst (N := 3) rfl ?_); refine box_event ?hg (N := 3) ?hd (cs := #[.int .i64 a0_0, .slice A0_1 l0_1.length c0_1]) (t := 68) ?hr ?_; (case hd => rfl); (case hg => rfl); (case hr => first | (go_simp; done) | (go_simp; rfl)); intro gb664 hg w11 hbox hb; have n0_ := Aside0.mk (below_step (by repeat (first | (with_reducible first | exact HB.out | apply below_alloc | apply pw_below_drewN | apply below_drew1) | exact HB.out)) hb); have n1_ := Aside0.mk (hbox); have n2_ := Aside0.mk ((by rw [hg]; exact (below_size (by repeat (first | (with_reducible first | exact HB.out | apply below_alloc | apply pw_below_drewN | apply below_drew1) | exact HB.out))) : w.heap.size ≤ gb664)); have n3_ := Aside0.mk ((by rw [hg]; exact (below_size (by repeat (first | (with_reducible first | exact HB.out | apply below_alloc | apply pw_below_drewN | apply below_drew1) | exact HB.out))) : w.heap.size ≤ gb664)); clear HB; have HB := n0_; have BK664 := n1_; have GW664 := n2_; have GE664 := n3_; clear n0_ n1_ n2_ n3_; clear hb hbox hg) | (go_at_call 118; (with_reducible refine (impl_has.calls a1 a2 false _ A4.out).mono ?_); rintro e w' ⟨rfl, ⟨nd, rfl⟩⟩; (try first | exact ⟨rfl, _, World.drewN_drewN _ _ _⟩ | exact ⟨rfl, _, Eq.trans (World.drewN_drewN _ _ _) (congrArg (World.drewN _) (Nat.add_assoc _ _ _))⟩); have hcz12_0 : w11.cell? ⟨gb664, 0, none⟩ = some (.int .i64 a0_0) := (blk_cell BK664.out 0).trans rfl; have hcz12_1 : w11.cell? ⟨gb664, 1, none⟩ = some (.slice A0_1 l0_1.length c0_1) := (blk_cell BK664.out 1).trans rfl; have hfz12_0 := blk_frozen BK664.out 0; have hfz12_1 := blk_frozen BK664.out 1; have p666 : 0 ≤ (a1 : Int) := of_decide_eq_true (by first | (with_reducible assumption) | assumption); have q666 : a1 < (l0_1.length : Int) := of_decide_eq_true (by first | (with_reducible assumption) | assumption); obtain ⟨ad666, e666, hx666_0⟩ := Kd.at_bool HR0_1.out a1 p666 q666; (try rw [← Nbq9.out] at hx666_0); cases e666; replace hx666_0 := (HB.out.cell (World.block_lt_of_cell? w _ hx666_0)).trans hx666_0; replace p666 := eq_true p666; replace q666 := eq_true q666)))
     go_ret
     exact ⟨by first | rfl | (simp [errW_none, errW_some] <;> rfl) | (simp [*, errW_none, errW_some] <;> rfl), by repeat (first | (with_reducible first | exact HB.out | apply below_alloc | apply pw_below_drewN | apply below_drew1 | refine below_set ?_ GE664.out) | exact HB.out)⟩
    ·replace c10 := Bool.eq_false_iff.mpr c10
     subst c10
     have H1 : (if 0 ≤ a2 then (if 0 ≤ (Go.bits .or .i64 a1 (shl .i64 1 a2)) then (if (Go.bits .or .i64 a1 (shl .i64 1 a2)) < (l0_1.length : Int) then (some (rdOf false l0_1 (Go.bits .or .i64 a1 (shl .i64 1 a2)))) else (none)) else (none)) else (none)) = some r := by rw [if_neg (show ¬ (false = true) by decide)] at H; exact H
     clear H
     have H := H1
     clear H1
     by_cases c13 : 0 ≤ a2
     ·rw [if_pos c13] at H
      have c13b0 := eq_true c13
      have c13b1 : decide (0 ≤ a2) = true := decide_eq_true c13
      clear c13
      obtain ⟨ji14, hji14⟩ : ∃ j_ : Int, (shl .i64 1 a2) = j_ := ⟨_, rfl⟩
      replace H : (if 0 ≤ (Go.bits .or .i64 a1 (ji14)) then (if (Go.bits .or .i64 a1 (ji14)) < (l0_1.length : Int) then (some (rdOf false l0_1 (Go.bits .or .i64 a1 (ji14)))) else (none)) else (none)) = some r := by first | (rw [hji14] at H; exact H) | (simp only [hji14] at H ⊢; exact H)
      (try rw [hji14] at A4)
      have hji14_ : (IntKind.i64.wrap (1 * 2 ^ min a2.toNat 64)) = ji14 := hji14
      have hji14z : a2 ≤ 64 → (IntKind.i64.wrap (1 * 2 ^ a2.toNat)) = ji14 := shl_small hji14
      have hji14u : (IntKind.i64.wrap (2 ^ min a2.toNat 64)) = ji14 := by have h_ := hji14_; rw [Int.one_mul] at h_; exact h_
      have hji14v : a2 ≤ 64 → (IntKind.i64.wrap (2 ^ a2.toNat)) = ji14 := fun hle_ => by have h_ := hji14z hle_; rw [Int.one_mul] at h_; exact h_
      have hji14y : (wrap64 (1 * 2 ^ min a2.toNat 64)) = ji14 := (i64_w _).symm.trans hji14_
      have hji14x : a2 ≤ 64 → (wrap64 (1 * 2 ^ a2.toNat)) = ji14 := fun h_ => (i64_w _).symm.trans (hji14z h_)
      by_cases c15 : 0 ≤ (Go.bits .or .i64 a1 (ji14))
      ·rw [if_pos c15] at H
       have c15b0 : decide (0 ≤ (Go.bits .or .i64 a1 (ji14))) = true := decide_eq_true c15
       clear c15
       by_cases c16 : (Go.bits .or .i64 a1 (ji14)) < (l0_1.length : Int)
       ·rw [if_pos c16] at H
        have c16b0 : decide ((Go.bits .or .i64 a1 (ji14)) < (l0_1.length : Int)) = true := decide_eq_true c16
        clear c16
        obtain rfl := Option.some.inj H
        go_enter Tryz.func155, Tryz.ntmps155
        go_wp2_with (first | ((with_reducible refine gate_dst (N := 3) rfl ?_); refine box_event ?hg (N := 3) ?hd (cs := #[.int .i64 a0_0, .slice A0_1 l0_1.length c0_1]) (t := 68) ?hr ?_; (case hd => rfl); (case hg => rfl); (case hr => first | (go_simp; done) | (go_simp; rfl)); intro gb664 hg w17 hbox hb; have n0_ := Aside0.mk (below_step (by repeat (first | (with_reducible first | exact HB.out | apply below_alloc | apply pw_below_drewN | apply below_drew1) | exact HB.out)) hb); have n1_ := Aside0.mk (hbox); have n2_ := Aside0.mk ((by rw [hg]; exact (below_size (by repeat (first | (with_reducible first | exact HB.out | apply below_alloc | apply pw_below_drewN | apply below_drew1) | exact HB.out))) : w.heap.size ≤ gb664)); have n3_ := Aside0.mk ((by rw [hg]; exact (below_size (by repeat (first | (with_reducible first | exact HB.out | apply below_alloc | apply pw_below_drewN | apply below_drew1) | exact HB.out))) : w.heap.size ≤ gb664)); clear HB; have HB := n0_; have BK664 := n1_; have GW664 := n2_; have GE664 := n3_; clear n0_ n1_ n2_ n3_; clear hb hbox hg) | (go_at_call 118; (with_reducible refine (impl_has.calls a1 a2 false _ A4.out).mono ?_); rintro e w' ⟨rfl, ⟨nd, rfl⟩⟩; (try first | exact ⟨rfl, _, World.drewN_drewN _ _ _⟩ | exact ⟨rfl, _, Eq.trans (World.drewN_drewN _ _ _) (congrArg (World.drewN _) (Nat.add_assoc _ _ _))⟩); have hcz18_0 : w17.cell? ⟨gb664, 0, none⟩ = some (.int .i64 a0_0) := (blk_cell BK664.out 0).trans rfl; have hcz18_1 : w17.cell? ⟨gb664, 1, none⟩ = some (.slice A0_1 l0_1.length c0_1) := (blk_cell BK664.out 1).trans rfl; have hfz18_0 := blk_frozen BK664.out 0; have hfz18_1 := blk_frozen BK664.out 1; have p666 : 0 ≤ (a1 : Int) := of_decide_eq_true (by first | (with_reducible assumption) | assumption); have q666 : a1 < (l0_1.length : Int) := of_decide_eq_true (by first | (with_reducible assumption) | assumption); obtain ⟨ad666, e666, hx666_0⟩ := Kd.at_bool HR0_1.out a1 p666 q666; (try rw [← Nbq9.out] at hx666_0); cases e666; replace hx666_0 := (HB.out.cell (World.block_lt_of_cell? w _ hx666_0)).trans hx666_0; replace p666 := eq_true p666; replace q666 := eq_true q666; have p667 : 0 ≤ ((Go.bits .or .i64 a1 (ji14)) : Int) := of_decide_eq_true (by first | (with_reducible assumption) | assumption); have q667 : (Go.bits .or .i64 a1 (ji14)) < (l0_1.length : Int) := of_decide_eq_true (by first | (with_reducible assumption) | assumption); obtain ⟨ad667, e667, hx667_0⟩ := Kd.at_bool HR0_1.out (Go.bits .or .i64 a1 (ji14)) p667 q667; (try rw [← Nbq9.out] at hx667_0); obtain rfl : ad666 = ad667 := (by injection e667); replace hx667_0 := (HB.out.cell (World.block_lt_of_cell? w _ hx667_0)).trans hx667_0; replace p667 := eq_true p667; replace q667 := eq_true q667))
        repeat (go_quiet (first | ((with_reducible refine gate_dst (N := 3) rfl ?_); refine box_event ?hg (N := 3) ?hd (cs := #[.int .i64 a0_0, .slice A0_1 l0_1.length c0_1]) (t := 68) ?hr ?_; (case hd => rfl); (case hg => rfl); (case hr => first | (go_simp; done) | (go_simp; rfl)); intro gb664 hg w17 hbox hb; have n0_ := Aside0.mk (below_step (by repeat (first | (with_reducible first | exact HB.out | apply below_alloc | apply pw_below_drewN | apply below_drew1) | exact HB.out)) hb); have n1_ := Aside0.mk (hbox); have n2_ := Aside0.mk ((by rw [hg]; exact (below_size (by repeat (first | (with_reducible first | exact HB.out | apply below_alloc | apply pw_below_drewN | apply below_drew1) | exact HB.out))) : w.heap.size ≤ gb664)); have n3_ := Aside0.mk ((by rw [hg]; exact (below_size (by repeat (first | (with_reducible first | exact HB.out | apply below_alloc | apply pw_below_drewN | apply below_drew1) | exact HB.out))) : w.heap.size ≤ gb664)); clear HB; have HB := n0_; have BK664 := n1_; have GW664 := n2_; have GE664 := n3_; clear n0_ n1_ n2_ n3_; clear hb hbox hg) | (go_at_call 118; (with_reducible refine (impl_has.calls a1 a2 false _ A4.out).mono ?_); rintro e w' ⟨rfl, ⟨nd, rfl⟩⟩; (try first | exact ⟨rfl, _, World.drewN_drewN _ _ _⟩ | exact ⟨rfl, _, Eq.trans (World.drewN_drewN _ _ _) (congrArg (World.drewN _) (Nat.add_assoc _ _ _))⟩); have hcz18_0 : w17.cell? ⟨gb664, 0, none⟩ = some (.int .i64 a0_0) := (blk_cell BK664.out 0).trans rfl; have hcz18_1 : w17.cell? ⟨gb664, 1, none⟩ = some (.slice A0_1 l0_1.length c0_1) := (blk_cell BK664.out 1).trans rfl; have hfz18_0 := blk_frozen BK664.out 0; have hfz18_1 := blk_frozen BK664.out 1; have p666 : 0 ≤ (a1 : Int) := of_decide_eq_true (by first | (with_reducible assumption) | assumption); have q666 : a1 < (l0_1.length : Int) := of_decide_eq_true (by first | (with_reducible assumption) | assumption); obtain ⟨ad666, e666, hx666_0⟩ := Kd.at_bool HR0_1.out a1 p666 q666; (try rw [← Nbq9.out] at hx666_0); cases e666; replace hx666_0 := (HB.out.cell (World.block_lt_of_cell? w _ hx666_0)).trans hx666_0; replace p666 := eq_true p666; replace q666 := eq_true q666; have p667 : 0 ≤ ((Go.bits .or .i64 a1 (ji14)) : Int) := of_decide_eq_true (by first | (with_reducible assumption) | assumption); have q667 : (Go.bits .or .i64 a1 (ji14)) < (l0_1.length : Int) := of_decide_eq_true (by first | (with_reducible assumption) | assumption); obtain ⟨ad667, e667, hx667_0⟩ := Kd.at_bool HR0_1.out (Go.bits .or .i64 a1 (ji14)) p667 q667; (try rw [← Nbq9.out] at hx667_0); obtain rfl : ad666 = ad667 := (by injection e667); replace hx667_0 := (HB.out.cell (World.block_lt_of_cell? w _ hx667_0)).trans hx667_0; replace p667 := eq_true p667; replace q667 := eq_true q667)); try go_wp2_with (first | ((with_reducible refine gate_dst (N := 3) rfl ?_); refine box_event ?hg (N := 3) ?hd (cs := #[.int .i64 a0_0, .slice A0_1 l0_1.length c0_1]) (t := 68) ?hr ?_; (case hd => rfl); (case hg => rfl); (case hr => first | (go_simp; done) | (go_simp; rfl)); intro gb664 hg w17 hbox hb; have n0_ := Aside0.mk (below_step (by repeat (first | (with_reducible first | exact HB.out | apply below_alloc | apply pw_below_drewN | apply below_drew1) | exact HB.out)) hb); have n1_ := Aside0.mk (hbox); have n2_ := Aside0.mk ((by rw [hg]; exact (below_size (by repeat (first | (with_reducible first | exact HB.out | apply below_alloc | apply pw_below_drewN | apply below_drew1) | exact HB.out))) : w.heap.size ≤ gb664)); have n3_ := Aside0.mk ((by rw [hg]; exact (below_size (by repeat (first | (with_reducible first | exact HB.out | apply below_alloc | apply pw_below_drewN | apply below_drew1) | exact HB.out))) : w.heap.size ≤ gb664)); clear HB; have HB := n0_; have BK664 := n1_; have GW664 := n2_; have GE664 := n3_; clear n0_ n1_ n2_ n3_; clear hb hbox hg) | (go_at_call 118; (with_reducible refine (impl_has.calls a1 a2 false _ A4.out).mono ?_); rintro e w' ⟨rfl, ⟨nd, rfl⟩⟩; (try first | exact ⟨rfl, _, World.drewN_drewN _ _ _⟩ | exact ⟨rfl, _, Eq.trans (World.drewN_drewN _ _ _) (congrArg (World.drewN _) (Nat.add_assoc _ _ _))⟩); have hcz18_0 : w17.cell? ⟨gb664, 0, none⟩ = some (.int .i64 a0_0) := (blk_cell BK664.out 0).trans rfl; have hcz18_1 : w17.cell? ⟨gb664, 1, none⟩ = some (.slice A0_1 l0_1.length c0_1) := (blk_cell BK664.out 1).trans rfl; have hfz18_0 := blk_frozen BK664.out 0; have hfz18_1 := blk_frozen BK664.out 1; have p666 : 0 ≤ (a1 : Int) := of_decide_eq_true (by first | (with_reducible assumption) | assumption); have q666 : a1 < (l0_1.length : Int) := of_decide_eq_true (by first | (with_reducible assumption) | assumption); obtain ⟨ad666, e666, hx666_0⟩ := Kd.at_bool HR0_1.out a1 p666 q666; (try rw [← Nbq9.out] at hx666_0); cases e666; replace hx666_0 := (HB.out.cell (World.block_lt_of_cell? w _ hx666_0)).trans hx666_0; replace p666 := eq_true p666; replace q666 := eq_true q666; have p667 : 0 ≤ ((Go.bits .or .i64 a1 (ji14)) : Int) := of_decide_eq_true (by first | (with_reducible assumption) | assumption); have q667 : (Go.bits .or .i64 a1 (ji14)) < (l0_1.length : Int) := of_decide_eq_true (by first | (with_reducible assumption) | assumption); obtain ⟨ad667, e667, hx667_0⟩ := Kd.at_bool HR0_1.out (Go.bits .or .i64 a1 (ji14)) p667 q667; (try rw [← Nbq9.out] at hx667_0); obtain rfl : ad666 = ad667 := (by injection e667); replace hx667_0 := (HB.out.cell (World.block_lt_of_cell? w _ hx667_0)).trans hx667_0; replace p667 := eq_true p667; replace q667 := eq_true q667)))
        go_ret
        exact ⟨by first | rfl | (simp [errW_none, errW_some] <;> rfl) | (simp only [← hji14]; first | rfl | (simp [errW_none, errW_some] <;> rfl)) | (simp [*, errW_none, errW_some] <;> rfl), by repeat (first | (with_reducible first | exact HB.out | apply below_alloc | apply pw_below_drewN | apply below_drew1 | refine below_set ?_ GE664.out) | exact HB.out)⟩
       ·rw [if_neg c16] at H
        exact absurd H (by simp)
      ·rw [if_neg c15] at H
       exact absurd H (by simp)
     ·rw [if_neg c13] at H
      exact absurd H (by simp)
   ·rw [if_neg c8] at H
    exact absurd H (by simp)
  ·rw [if_neg c7] at H
   exact absurd H (by simp)
end Go.Proofs.YtnncjnjfdhbddaaGreat.Z
namespace Go.Proofs.YtnncjnjfdhbddaaGreat.Z
open Go.RowKit Go.Proofs.YtnncjnjfdhbddaaGreatW.PrintWords Go.Proofs.YtnncjnjfdhbddaaGreatW.PrintLast Go.Proofs.YtnncjnjfdhbddaaGreatW.PrintMore
attribute [local go_sem] max2_int min2_int max_two min_two max_three min_three max_four min_four
set_option linter.unusedVariables false
set_option linter.unusedSimpArgs false
mutual
def impl_votes_swings.l0 : Nat → List Int → Int → Int → Int → List Bool → Option (List Int)
 | 0, _, _, _, _, _ => none
 | k + 1, x3, x10, x11, x669000, x669001 => if x11 < x10 then (impl_votes_swings.l1 k x3 x11 x10 x11 (x669001.length : Int) 0 x669000 x669001) else (some x3)
def impl_votes_swings.l1 : Nat → List Int → Int → Int → Int → Int → Int → Int → List Bool → Option (List Int)
 | 0, _, _, _, _, _, _, _, _ => none
 | k + 1, x3, x4, x10, x11, x16, x17, x669000, x669001 => if x17 < x16 then ((impl_votes_isSwing.f x669000 x669001 x17 x4).bind fun t672 => (if t672 = true then (if 0 ≤ x4 then (if x4 < (x3.length : Int) then (impl_votes_swings.l1 k (x3.set (x4 : Int).toNat (wrap64 ((rd x3 x4) + 1))) x4 x10 x11 x16 (wrap64 (x17 + 1)) x669000 x669001) else (none)) else (none)) else (impl_votes_swings.l1 k x3 x4 x10 x11 x16 (wrap64 (x17 + 1)) x669000 x669001))) else (impl_votes_swings.l0 k x3 x10 (wrap64 (x11 + 1)) x669000 x669001)
end
def impl_votes_swings.f (k : Nat) (a0_0 : Int) (l0_1 : List Bool) : Option (List Int) := if 0 ≤ a0_0 then (if (a0_0 : Int).toNat ≤ 35184372088832 then ((some (List.replicate (a0_0 : Int).toNat 0 : List Int)).bind fun y669 => (impl_votes_swings.l0 k y669 (y669.length : Int) 0 a0_0 l0_1)) else (none)) else (none)
set_option maxHeartbeats 8000000 in
set_option maxRecDepth 100000 in
theorem impl_votes_swings.calls (k : Nat) (a0_0 : Int) (A0_1 : Option Addr) (c0_1 : Nat) (l0_1 : List Bool) (r : List Int) (w : World) (hr0_1 : Kd.C Kd.bool w A0_1 l0_1.length l0_1) (hc0_1 : l0_1.length ≤ c0_1) (h : impl_votes_swings.f k a0_0 l0_1 = some r) :
  Calls Tryz.prog 133 #[.agg #[.int .i64 a0_0, .slice A0_1 l0_1.length c0_1]] w fun e w' => ∃ v0_ : Value, e = .returned (v0_) ∧ Kd.R (Kd.int .i64) 3 w' w.heap.size (fun _ => True) v0_ r ∧ Below w.heap.size w w' := by
 have hu68 := Tryz.underlying68
 have HR0_1 := Aside0.mk hr0_1
 have HC0_1 := Aside0.mk hc0_1
 clear hr0_1 hc0_1
 have HB := Aside0.mk (Below.refl w.heap.size w)
 have H : (if 0 ≤ a0_0 then (if (a0_0 : Int).toNat ≤ 35184372088832 then ((some (List.replicate (a0_0 : Int).toNat 0 : List Int)).bind fun y669 => (impl_votes_swings.l0 k y669 (y669.length : Int) 0 a0_0 l0_1)) else (none)) else (none)) = some r := h
 clear h
 by_cases c2 : 0 ≤ a0_0
 ·rw [if_pos c2] at H
  have c2b0 := eq_true c2
  have c2b1 : decide (0 ≤ a0_0) = true := decide_eq_true c2
  clear c2
  by_cases c3 : (a0_0 : Int).toNat ≤ 35184372088832
  ·rw [if_pos c3] at H
   have c3b0 := eq_true c3
   have c3b1 : decide ((a0_0 : Int).toNat ≤ 35184372088832) = true := decide_eq_true c3
   clear c3
   obtain ⟨y669, hy669⟩ : ∃ y_ : List Int, y_ = (List.replicate (a0_0 : Int).toNat 0) := ⟨_, rfl⟩
   replace H : (impl_votes_swings.l0 k y669 (y669.length : Int) 0 a0_0 l0_1) = some r := by first | (rw [hy669]; with_reducible exact H) | (have H2_ := (Option.bind_some _ _).symm.trans H; rw [hy669]; with_reducible exact H2_) | (have H2_ := (Option.bind_some _ _).symm.trans H; with_reducible exact H2_) | with_reducible exact H | (rw [hy669]; exact H) | exact H
   have Ny669 := Aside0.mk hy669
   clear hy669
   have H' := Aside0.mk H
   clear H
   go_enter Tryz.func133, Tryz.ntmps133
   go_wp2_with (first | ((with_reducible refine gate_dst (N := 1) rfl ?_); refine box_event ?hg (N := 1) ?hd (cs := #[.int .i64 a0_0, .slice A0_1 l0_1.length c0_1]) (t := 68) ?hr ?_; (case hd => rfl); (case hg => rfl); (case hr => first | (go_simp; done) | (go_simp; rfl)); intro gb668 hg w4 hbox hb; have n0_ := Aside0.mk (below_step (by repeat (first | (with_reducible first | exact HB.out | apply below_alloc | apply pw_below_drewN | apply below_drew1) | exact HB.out)) hb); have n1_ := Aside0.mk (hbox); have n2_ := Aside0.mk ((by rw [hg]; exact (below_size (by repeat (first | (with_reducible first | exact HB.out | apply below_alloc | apply pw_below_drewN | apply below_drew1) | exact HB.out))) : w.heap.size ≤ gb668)); have n3_ := Aside0.mk ((by rw [hg]; exact (below_size (by repeat (first | (with_reducible first | exact HB.out | apply below_alloc | apply pw_below_drewN | apply below_drew1) | exact HB.out))) : w.heap.size ≤ gb668)); clear HB; have HB := n0_; have BK668 := n1_; have GW668 := n2_; have GE668 := n3_; clear n0_ n1_ n2_ n3_; clear hb hbox hg; have hcz5_0 : w4.cell? ⟨gb668, 0, none⟩ = some (.int .i64 a0_0) := (blk_cell BK668.out 0).trans rfl; have hcz5_1 : w4.cell? ⟨gb668, 1, none⟩ = some (.slice A0_1 l0_1.length c0_1) := (blk_cell BK668.out 1).trans rfl; have hfz5_0 := blk_frozen BK668.out 0; have hfz5_1 := blk_frozen BK668.out 1) | ((with_reducible refine gate_dst (N := 8) rfl ?_); refine Kd.R_make (Kd.int .i64) _ 3 rfl (N := 8) rfl 36 _ _ rfl a0_0 rfl rfl Tryz.underlying36 (.int .i64 0) 8 info3 rfl (by decide) (by omega) 0 (ok := fun _ => True) (okp := fun _ => True) rfl (fun _ hk => hk) trivial (of_decide_eq_true (by first | (with_reducible assumption) | assumption)) (Nat.le_trans (Nat.mul_le_mul_right _ (of_decide_eq_true (by first | (with_reducible assumption) | assumption) : a0_0.toNat ≤ 35184372088832)) (by omega)) (Below.refl _ _) (Nat.le_refl _) ?_; intro v670 w6 ho7 hb hg_ hnew_; clear hg_ hnew_; (first | rw [← Ny669.out] at ho7 | (simp only [Int.reduceToNat] at ho7; rw [← Ny669.out] at ho7)); have n0_ := Aside0.mk (Kd.R_lower ho7 (below_size (by repeat (first | (with_reducible first | exact HB.out | apply below_alloc | apply pw_below_drewN | apply below_drew1 | refine below_set ?_ GE668.out) | exact HB.out)))); have n1_ := Aside0.mk (blk_below (g := gb668) (o := .cells #[.int .i64 a0_0, .slice A0_1 l0_1.length c0_1] 68 (0, 0)) (by (with_reducible repeat (first | refine blk_drewN ?_ _ | refine blk_drew ?_ | refine blk_alloc ?_ _)); exact BK668.out) hb); have n2_ := Aside0.mk (below_step (by repeat (first | (with_reducible first | exact HB.out | apply below_alloc | apply pw_below_drewN | apply below_drew1 | refine below_set ?_ GE668.out) | exact HB.out)) hb); clear BK668; clear HB; have HO671 := n0_; have BK668 := n1_; have HB := n2_; clear n0_ n1_ n2_; clear hb ho7; obtain ⟨Ao8, co8, eo8⟩ := Kd.R_slice HO671.out; subst eo8))
   go_loopg [11] k (fun kq v11 w' => ∃ (x3_1 : List Int) (x11_1 : Int), v11 = .int .i64 x11_1 ∧ Aside0 (impl_votes_swings.l0 kq x3_1 (y669.length : Int) x11_1 a0_0 l0_1 = some r) ∧ Aside0 (kq ≤ k) ∧ Aside0 (Kd.R (Kd.int .i64) 3 w' w.heap.size (fun _ => True) (.slice Ao8 y669.length co8) x3_1) ∧ Aside0 (w'.heap[gb668]? = some (.cells #[.int .i64 a0_0, (.slice A0_1 l0_1.length c0_1)] 68 (0, 0))) ∧ Aside0 (Below w.heap.size w w'))
   case atStart => exact ⟨(y669), (0), (by first | rfl | (simp; done) | (simp [*]; done)), H', ⟨Nat.le_refl _⟩, ⟨by (with_reducible repeat (first | apply Kd.R_alloc | apply Kd.R_drewN | apply Kd.R_drew)); exact HO671.out⟩, ⟨by (with_reducible repeat (first | refine blk_drewN ?_ _ | refine blk_drew ?_ | refine blk_alloc ?_ _)); exact BK668.out⟩, ⟨by repeat (first | (with_reducible first | exact HB.out | apply below_alloc | apply pw_below_drewN | apply below_drew1 | refine below_set ?_ GE668.out) | exact HB.out)⟩⟩
   case round =>
    clear H'
    try clear c1
    try clear c2
    try clear c2b0
    try clear c2b1
    try clear p2
    try clear c3
    try clear c3b0
    try clear c3b1
    try clear hcz5_0
    try clear hcz5_1
    try clear hfz5_0
    try clear hfz5_1
    obtain ⟨x3_1, x11_1, rfl, HA, HK1, HO_3, BK668, HB⟩ := hrel
    have hl3_1 := (Kd.R_reads' HO_3.out).1
    rw [hl3_1] at HO_3
    (try simp only [hl3_1])
    (try simp only [hl3_1] at BK668)
    cases gk with
    | zero => exact absurd HA.out (by simp [impl_votes_swings.l0])
    | succ k1 =>
     have H := HA.out
     clear HA
     simp only [impl_votes_swings.l0] at H
     by_cases c9 : x11_1 < (y669.length : Int)
     ·rw [if_pos c9] at H
      have c9b0 : decide (x11_1 < (y669.length : Int)) = true := decide_eq_true c9
      have c9b0x := c9b0
      rw [hl3_1] at c9b0x
      clear c9
      have H' := Aside0.mk H
      clear H
      have hcz10_0 : wr.cell? ⟨gb668, 0, none⟩ = some (.int .i64 a0_0) := (blk_cell BK668.out 0).trans rfl
      have hcz10_1 : wr.cell? ⟨gb668, 1, none⟩ = some (.slice A0_1 l0_1.length c0_1) := (blk_cell BK668.out 1).trans rfl
      have hfz10_0 := blk_frozen BK668.out 0
      have hfz10_1 := blk_frozen BK668.out 1
      go_wp2
      go_loopg [17] k1 (fun kq v17 w' => ∃ (x3_2 : List Int) (x17_2 : Int), v17 = .int .i64 x17_2 ∧ Aside0 (impl_votes_swings.l1 kq x3_2 x11_1 (y669.length : Int) x11_1 (l0_1.length : Int) x17_2 a0_0 l0_1 = some r) ∧ Aside0 (kq ≤ k1) ∧ Aside0 (Kd.R (Kd.int .i64) 3 w' w.heap.size (fun _ => True) (.slice Ao8 x3_1.length co8) x3_2) ∧ Aside0 (w'.heap[gb668]? = some (.cells #[.int .i64 a0_0, (.slice A0_1 l0_1.length c0_1)] 68 (0, 0))) ∧ Aside0 (Below w.heap.size w w'))
      case atStart => exact ⟨(x3_1), (0), (by first | rfl | (simp; done) | (simp [*]; done)), H', ⟨Nat.le_refl _⟩, ⟨by (try simp only [hl3_1]); (with_reducible repeat (first | apply Kd.R_alloc | apply Kd.R_drewN | apply Kd.R_drew)); exact HO_3.out⟩, ⟨by (try simp only [hl3_1]); (with_reducible repeat (first | refine blk_drewN ?_ _ | refine blk_drew ?_ | refine blk_alloc ?_ _)); exact BK668.out⟩, ⟨by repeat (first | (with_reducible first | exact HB.out | apply below_alloc | apply pw_below_drewN | apply below_drew1 | refine below_set ?_ GE668.out) | exact HB.out)⟩⟩
      case round =>
       clear H'
       try clear c1
       try clear c2
       try clear c2b0
       try clear c2b1
       try clear p2
       try clear c3
       try clear c3b0
       try clear c3b1
       try clear c9
       try clear c9b0
       try clear hcz10_0
       try clear hcz10_1
       try clear hcz5_0
       try clear hcz5_1
       try clear hfz10_0
       try clear hfz10_1
       try clear hfz5_0
       try clear hfz5_1
       try clear p2
       obtain ⟨x3_2, x17_2, rfl, HA, HK2, HO_3, BK668, HB⟩ := hrel
       have hl3_2 := (Kd.R_reads' HO_3.out).1
       rw [hl3_2] at HO_3
       (try simp only [hl3_2])
       (try simp only [hl3_2] at BK668)
       cases gk with
       | zero => exact absurd HA.out (by simp [impl_votes_swings.l1])
       | succ k2 =>
        have H := HA.out
        clear HA
        simp only [impl_votes_swings.l1] at H
        by_cases c11 : x17_2 < (l0_1.length : Int)
        ·rw [if_pos c11] at H
         have c11b0 : decide (x17_2 < (l0_1.length : Int)) = true := decide_eq_true c11
         clear c11
         replace H := Option.bind_eq_some_iff.mp H
         obtain ⟨t672, A120, H⟩ := H
         replace H : (if t672 = true then (if 0 ≤ x11_1 then (if x11_1 < (x3_2.length : Int) then (impl_votes_swings.l1 k2 (x3_2.set (x11_1 : Int).toNat (wrap64 ((rd x3_2 x11_1) + 1))) x11_1 (y669.length : Int) x11_1 (l0_1.length : Int) (wrap64 (x17_2 + 1)) a0_0 l0_1) else (none)) else (none)) else (impl_votes_swings.l1 k2 x3_2 x11_1 (y669.length : Int) x11_1 (l0_1.length : Int) (wrap64 (x17_2 + 1)) a0_0 l0_1)) = some r := H
         have A12 := Aside0.mk A120
         clear A120
         by_cases c13 : t672 = true
         ·subst c13
          have H1 : (if 0 ≤ x11_1 then (if x11_1 < (x3_2.length : Int) then (impl_votes_swings.l1 k2 (x3_2.set (x11_1 : Int).toNat (wrap64 ((rd x3_2 x11_1) + 1))) x11_1 (y669.length : Int) x11_1 (l0_1.length : Int) (wrap64 (x17_2 + 1)) a0_0 l0_1) else (none)) else (none)) = some r := by rw [if_pos rfl] at H; exact H
          clear H
          have H := H1
          clear H1
          by_cases c14 : 0 ≤ x11_1
          ·rw [if_pos c14] at H
           have c14b0 : decide (0 ≤ x11_1) = true := decide_eq_true c14
           clear c14
           by_cases c15 : x11_1 < (x3_2.length : Int)
           ·rw [if_pos c15] at H
            have c15b0 : decide (x11_1 < (x3_2.length : Int)) = true := decide_eq_true c15
            clear c15
            obtain ⟨y674, hy674⟩ : ∃ y_ : List Int, y_ = (x3_2.set (x11_1 : Int).toNat (wrap64 ((rd x3_2 x11_1) + 1))) := ⟨_, rfl⟩
            replace H : (impl_votes_swings.l1 k2 y674 x11_1 (y669.length : Int) x11_1 (l0_1.length : Int) (wrap64 (x17_2 + 1)) a0_0 l0_1) = some r := by first | (rw [hy674]; with_reducible exact H) | (have H2_ := (Option.bind_some _ _).symm.trans H; rw [hy674]; with_reducible exact H2_) | (have H2_ := (Option.bind_some _ _).symm.trans H; with_reducible exact H2_) | with_reducible exact H | (rw [hy674]; exact H) | exact H
            have Ny674 := Aside0.mk hy674
            clear hy674
            have H' := Aside0.mk H
            clear H
            have hcz17_0 : wr.cell? ⟨gb668, 0, none⟩ = some (.int .i64 a0_0) := (blk_cell BK668.out 0).trans rfl
            have hcz17_1 : wr.cell? ⟨gb668, 1, none⟩ = some (.slice A0_1 l0_1.length c0_1) := (blk_cell BK668.out 1).trans rfl
            have hfz17_0 := blk_frozen BK668.out 0
            have hfz17_1 := blk_frozen BK668.out 1
            go_wp2_with (first | ((with_reducible refine gate_callee (f := 155) rfl ?_); refine goesL_ (some 23) rfl rfl Tryz.func155 (by kernel_rfl) rfl #[.agg #[.int .i64 a0_0, .slice A0_1 l0_1.length c0_1], .int .i64 x17_2, .int .i64 x11_1] rfl (by (try simp only [List.map_toArray, List.map_cons, List.map_nil]); first | done | rfl | (simp only [List.length_drop, List.length_take]; rfl)) ?_; (with_reducible refine (impl_votes_isSwing.calls a0_0 _ _ l0_1 x17_2 x11_1 true _ ?side1 ?side2 A12.out).mono ?_); (case side1 => repeat (first | exact (Kd.C_below HR0_1.out HB.out) | (with_reducible refine Kd.C_alloc ?_ _) | (with_reducible refine Kd.C_drewN ?_ _) | (with_reducible refine Kd.C_drew ?_))); (case side2 => exact HC0_1.out); rintro e w18 ⟨rfl, hb⟩; refine ⟨_, rfl, ?_⟩; have n0_ := Aside0.mk (Kd.R_below (by (with_reducible repeat (first | apply Kd.R_alloc | apply Kd.R_drewN | apply Kd.R_drew)); exact HO_3.out) hb); have n1_ := Aside0.mk (blk_below (g := gb668) (o := .cells #[.int .i64 a0_0, .slice A0_1 l0_1.length c0_1] 68 (0, 0)) (by (with_reducible repeat (first | refine blk_drewN ?_ _ | refine blk_drew ?_ | refine blk_alloc ?_ _)); exact BK668.out) hb); have n2_ := Aside0.mk (below_step (by repeat (first | (with_reducible first | exact HB.out | apply below_alloc | apply pw_below_drewN | apply below_drew1 | refine below_set ?_ GE668.out) | exact HB.out)) hb); clear HO_3; clear BK668; clear HB; have HO_3 := n0_; have BK668 := n1_; have HB := n2_; clear n0_ n1_ n2_; (try clear hb); (try clear hb2); (try clear hk); (try clear hi); have p673 : 0 ≤ (x11_1 : Int) := of_decide_eq_true (by first | (with_reducible assumption) | assumption); have q673 : x11_1 < (x3_2.length : Int) := of_decide_eq_true (by first | (with_reducible assumption) | assumption); obtain ⟨ad673, e673, hx673_0⟩ := Kd.at_int (Kd.R_reads' HO_3.out).2.2 x11_1 p673 q673; cases e673; replace p673 := eq_true p673; replace q673 := eq_true q673; have p16 : 0 ≤ (x11_1 : Int) := of_decide_eq_true (by first | (with_reducible assumption) | assumption); have q16 : (x11_1 : Int) < ((x3_2.length : Int) : Int) := of_decide_eq_true (by first | (with_reducible assumption) | assumption); obtain ⟨go16, co16, eo16, gb16, gl16, cl16, HG16⟩ := Kd.R_form HO_3.out (by omega); (first | cases eo16 | (injection eo16 with ea_ en_ ec_; (first | subst ea_ | (injection ea_ with ea_; subst ea_)); subst ec_; clear en_)); have GB16 := Aside0.mk gb16; have GG16 := Aside0.mk HG16; clear gb16 gl16 HG16; (first | simp only [add_plain] at hx673_0 | skip); obtain ⟨hx16_0, hf16_0⟩ := Kd.R_celln 0 HO_3.out (x11_1 : Int) p16 q16; replace p16 := eq_true p16; replace q16 := eq_true q16; obtain ⟨hy19_, hz19_⟩ := Kd.R_celln 0 HO_3.out (x11_1 : Int) (of_decide_eq_true (by first | (with_reducible assumption) | assumption)) (of_decide_eq_true (by first | (with_reducible assumption) | assumption)); have HP19 := Kd.R_putg HO_3.out (x11_1 : Int) (wrap64 ((rd x3_2 x11_1) + 1))) | ((with_reducible refine gate_store (t := 3) (p := 29) rfl ?_); refine store_event (t := 3) (p := 29) (v := ?vo_w20) (w1 := (w18.setCell ⟨go16, (x11_1 : Int).toNat, none⟩ (.int .i64 (wrap64 ((rd x3_2 x11_1) + 1))))) ?hg ?ho ?hn ?hr ?_; (case ho => rfl); (case hg => rfl); (case hn => rfl); (case hr => first | (go_simp; done) | (go_simp; rfl)); intro w20 hw; have hg : w18.grownBy w20 (some go16) := (by rw [hw]; exact HP19.2); have hp_ : Kd.R (Kd.int .i64) 3 w20 w.heap.size (fun _ => True) (.slice (some ⟨go16, 0, none⟩) x3_2.length co8) y674 := (by rw [hw, Ny674.out]; exact HP19.1); clear HP19; have n0_ := Aside0.mk (hp_); have n1_ := Aside0.mk (blk_grown (g := gb668) (o := .cells #[.int .i64 a0_0, .slice A0_1 l0_1.length c0_1] 68 (0, 0)) (by (with_reducible repeat (first | refine blk_drewN ?_ _ | refine blk_drew ?_ | refine blk_alloc ?_ _)); exact BK668.out) hg (Kd.R_ne HO_3.out BK668.out (by decide))); have n2_ := Aside0.mk ((by rw [hw]; exact below_set (HB.out) GB16.out : Below w.heap.size w w20)); clear HO_3; clear BK668; clear HB; have HO_3 := n0_; have BK668 := n1_; have HB := n2_; clear n0_ n1_ n2_; clear hg hw hp_))
            (try simp only [← hl3_2])
            go_roundg k2
            case measure => have := HK1.out; have := HK2.out; omega
            case rel => exact ⟨(y674), (wrap64 (x17_2 + 1)), (by first | rfl | (simp; done) | (simp [*]; done)), H', ⟨by have := HK1.out; have := HK2.out; omega⟩, ⟨by (try simp only [hl3_1]); (try simp only [hl3_2]); (with_reducible repeat (first | apply Kd.R_alloc | apply Kd.R_drewN | apply Kd.R_drew)); exact HO_3.out⟩, ⟨by (try simp only [hl3_1]); (try simp only [hl3_2]); (with_reducible repeat (first | refine blk_drewN ?_ _ | refine blk_drew ?_ | refine blk_alloc ?_ _)); exact BK668.out⟩, ⟨by repeat (first | (with_reducible first | exact HB.out | apply below_alloc | apply pw_below_drewN | apply below_drew1 | refine below_set ?_ GE668.out) | exact HB.out)⟩⟩
           ·rw [if_neg c15] at H
            exact absurd H (by simp)
          ·rw [if_neg c14] at H
           exact absurd H (by simp)
         ·replace c13 := Bool.eq_false_iff.mpr c13
          subst c13
          have H1 : (impl_votes_swings.l1 k2 x3_2 x11_1 (y669.length : Int) x11_1 (l0_1.length : Int) (wrap64 (x17_2 + 1)) a0_0 l0_1) = some r := by rw [if_neg (show ¬ (false = true) by decide)] at H; exact H
          clear H
          have H := H1
          clear H1
          have H' := Aside0.mk H
          clear H
          have hcz21_0 : wr.cell? ⟨gb668, 0, none⟩ = some (.int .i64 a0_0) := (blk_cell BK668.out 0).trans rfl
          have hcz21_1 : wr.cell? ⟨gb668, 1, none⟩ = some (.slice A0_1 l0_1.length c0_1) := (blk_cell BK668.out 1).trans rfl
          have hfz21_0 := blk_frozen BK668.out 0
          have hfz21_1 := blk_frozen BK668.out 1
          go_wp2_with (first | ((with_reducible refine gate_callee (f := 155) rfl ?_); refine goesL_ (some 23) rfl rfl Tryz.func155 (by kernel_rfl) rfl #[.agg #[.int .i64 a0_0, .slice A0_1 l0_1.length c0_1], .int .i64 x17_2, .int .i64 x11_1] rfl (by (try simp only [List.map_toArray, List.map_cons, List.map_nil]); first | done | rfl | (simp only [List.length_drop, List.length_take]; rfl)) ?_; (with_reducible refine (impl_votes_isSwing.calls a0_0 _ _ l0_1 x17_2 x11_1 false _ ?side1 ?side2 A12.out).mono ?_); (case side1 => repeat (first | exact (Kd.C_below HR0_1.out HB.out) | (with_reducible refine Kd.C_alloc ?_ _) | (with_reducible refine Kd.C_drewN ?_ _) | (with_reducible refine Kd.C_drew ?_))); (case side2 => exact HC0_1.out); rintro e w22 ⟨rfl, hb⟩; refine ⟨_, rfl, ?_⟩; have n0_ := Aside0.mk (Kd.R_below (by (with_reducible repeat (first | apply Kd.R_alloc | apply Kd.R_drewN | apply Kd.R_drew)); exact HO_3.out) hb); have n1_ := Aside0.mk (blk_below (g := gb668) (o := .cells #[.int .i64 a0_0, .slice A0_1 l0_1.length c0_1] 68 (0, 0)) (by (with_reducible repeat (first | refine blk_drewN ?_ _ | refine blk_drew ?_ | refine blk_alloc ?_ _)); exact BK668.out) hb); have n2_ := Aside0.mk (below_step (by repeat (first | (with_reducible first | exact HB.out | apply below_alloc | apply pw_below_drewN | apply below_drew1 | refine below_set ?_ GE668.out) | exact HB.out)) hb); clear HO_3; clear BK668; clear HB; have HO_3 := n0_; have BK668 := n1_; have HB := n2_; clear n0_ n1_ n2_; (try clear hb); (try clear hb2); (try clear hk); (try clear hi)))
          (try simp only [← hl3_2])
          go_roundg k2
          case measure => have := HK1.out; have := HK2.out; omega
          case rel => exact ⟨(x3_2), (wrap64 (x17_2 + 1)), (by first | rfl | (simp; done) | (simp [*]; done)), H', ⟨by have := HK1.out; have := HK2.out; omega⟩, ⟨by (try simp only [hl3_1]); (try simp only [hl3_2]); (with_reducible repeat (first | apply Kd.R_alloc | apply Kd.R_drewN | apply Kd.R_drew)); exact HO_3.out⟩, ⟨by (try simp only [hl3_1]); (try simp only [hl3_2]); (with_reducible repeat (first | refine blk_drewN ?_ _ | refine blk_drew ?_ | refine blk_alloc ?_ _)); exact BK668.out⟩, ⟨by repeat (first | (with_reducible first | exact HB.out | apply below_alloc | apply pw_below_drewN | apply below_drew1 | refine below_set ?_ GE668.out) | exact HB.out)⟩⟩
        ·rw [if_neg c11] at H
         have c11b0 : decide (x17_2 < (l0_1.length : Int)) = false := decide_eq_false c11
         clear c11
         have H' := Aside0.mk H
         clear H
         go_wp2
         (try simp only [← hl3_1, ← hl3_2])
         go_roundg k2
         case measure => have := HK1.out; have := HK2.out; omega
         case rel => exact ⟨(x3_2), (wrap64 (x11_1 + 1)), (by first | rfl | (simp; done) | (simp [*]; done)), H', ⟨by have := HK1.out; have := HK2.out; omega⟩, ⟨by (try simp only [hl3_1]); (try simp only [hl3_2]); (with_reducible repeat (first | apply Kd.R_alloc | apply Kd.R_drewN | apply Kd.R_drew)); exact HO_3.out⟩, ⟨by (try simp only [hl3_1]); (try simp only [hl3_2]); (with_reducible repeat (first | refine blk_drewN ?_ _ | refine blk_drew ?_ | refine blk_alloc ?_ _)); exact BK668.out⟩, ⟨by repeat (first | (with_reducible first | exact HB.out | apply below_alloc | apply pw_below_drewN | apply below_drew1 | refine below_set ?_ GE668.out) | exact HB.out)⟩⟩
     ·rw [if_neg c9] at H
      have c9b0 : decide (x11_1 < (y669.length : Int)) = false := decide_eq_false c9
      have c9b0x := c9b0
      rw [hl3_1] at c9b0x
      clear c9
      obtain rfl := Option.some.inj H
      go_wp2
      go_ret
      exact ⟨_, by first | rfl | (simp [errW_none, errW_some] <;> rfl) | (simp [*, errW_none, errW_some] <;> rfl), by (with_reducible repeat (first | apply Kd.R_alloc | apply Kd.R_drewN | apply Kd.R_drew)); exact HO_3.out, by repeat (first | (with_reducible first | exact HB.out | apply below_alloc | apply pw_below_drewN | apply below_drew1 | refine below_set ?_ GE668.out) | exact HB.out)⟩
  ·rw [if_neg c3] at H
   exact absurd H (by simp)
 ·rw [if_neg c2] at H
  exact absurd H (by simp)
end Go.Proofs.YtnncjnjfdhbddaaGreat.Z
namespace Go.Proofs.YtnncjnjfdhbddaaGreat.Z
open Go.RowKit Go.Proofs.YtnncjnjfdhbddaaGreatW.PrintWords Go.Proofs.YtnncjnjfdhbddaaGreatW.PrintLast Go.Proofs.YtnncjnjfdhbddaaGreatW.PrintMore
attribute [local go_sem] max2_int min2_int max_two min_two max_three min_three max_four min_four
set_option linter.unusedVariables false
set_option linter.unusedSimpArgs false
def impl_votes_isProper.l0 : Nat → List Bool → Int → Int → Int → List Bool → Option (Bool)
 | 0, _, _, _, _, _ => none
 | k + 1, x6, x7, x8, x676000, x676001 => if x8 < x7 then (if 0 ≤ x8 then (if x8 < (x6.length : Int) then (if rdOf false x6 x8 = true then ((impl_votes_all.f x676000 x676001).bind fun t677 => (if 0 ≤ (Go.bits .andNot .i64 t677 x8) then (if (Go.bits .andNot .i64 t677 x8) < (x676001.length : Int) then (if rdOf false x676001 (Go.bits .andNot .i64 t677 x8) = true then (some false) else (impl_votes_isProper.l0 k x6 x7 (wrap64 (x8 + 1)) x676000 x676001)) else (none)) else (none))) else (impl_votes_isProper.l0 k x6 x7 (wrap64 (x8 + 1)) x676000 x676001)) else (none)) else (none)) else (some true)
def impl_votes_isProper.f (k : Nat) (a0_0 : Int) (l0_1 : List Bool) : Option (Bool) := impl_votes_isProper.l0 k l0_1 (l0_1.length : Int) 0 a0_0 l0_1
def impl_votes_isProper.T4 : Bool × List (List Nat × List Nat) := (true, [([], []), ([0], [0]), ([1], [1]), ([2, 1], [1, 2]), ([1], [1]), ([4, 1, 1], [1, 4]), ([1], [1]), ([5, 6, 1], [1, 5, 6]), ([3, 7, 1], [1, 3, 7]), ([8, 1], [1, 8]), ([1, 9], [1, 9])])
def impl_votes_isProper.B4 : List Nat := [0, 1, 3, 7, 3, 19, 3, 115, 255, 511, 1023]
theorem impl_votes_isProper.tab4 : rtab .any (opsOf Tryz.f134 4) = impl_votes_isProper.T4 := by kernel_rfl
theorem impl_votes_isProper.bits4 : waitsOk impl_votes_isProper.T4.2 impl_votes_isProper.B4 = true := by kernel_rfl
set_option maxHeartbeats 8000000 in
set_option maxRecDepth 100000 in
theorem impl_votes_isProper.calls (k : Nat) (a0_0 : Int) (A0_1 : Option Addr) (c0_1 : Nat) (l0_1 : List Bool) (r : Bool) (w : World) (hr0_1 : Kd.C Kd.bool w A0_1 l0_1.length l0_1) (hc0_1 : l0_1.length ≤ c0_1) (h : impl_votes_isProper.f k a0_0 l0_1 = some r) :
  Calls Tryz.prog 134 #[.agg #[.int .i64 a0_0, .slice A0_1 l0_1.length c0_1]] w fun e w' => e = .returned (.bool r) ∧ Below w.heap.size w w' := by
 have hu68 := Tryz.underlying68
 have HR0_1 := Aside0.mk hr0_1
 have HC0_1 := Aside0.mk hc0_1
 clear hr0_1 hc0_1
 have HB := Aside0.mk (Below.refl w.heap.size w)
 have H : (impl_votes_isProper.l0 k l0_1 (l0_1.length : Int) 0 a0_0 l0_1) = some r := h
 clear h
 have H' := Aside0.mk H
 clear H
 go_enter Tryz.func134, Tryz.ntmps134
 go_wp2_with (first | ((with_reducible refine gate_dst (N := 1) rfl ?_); refine box_event ?hg (N := 1) ?hd (cs := #[.int .i64 a0_0, .slice A0_1 l0_1.length c0_1]) (t := 68) ?hr ?_; (case hd => rfl); (case hg => rfl); (case hr => first | (go_simp; done) | (go_simp; rfl)); intro gb675 hg w2 hbox hb; have n0_ := Aside0.mk (below_step (by repeat (first | (with_reducible first | exact HB.out | apply below_alloc | apply pw_below_drewN | apply below_drew1) | exact HB.out)) hb); have n1_ := Aside0.mk (hbox); have n2_ := Aside0.mk ((by rw [hg]; exact (below_size (by repeat (first | (with_reducible first | exact HB.out | apply below_alloc | apply pw_below_drewN | apply below_drew1) | exact HB.out))) : w.heap.size ≤ gb675)); have n3_ := Aside0.mk ((by rw [hg]; exact (below_size (by repeat (first | (with_reducible first | exact HB.out | apply below_alloc | apply pw_below_drewN | apply below_drew1) | exact HB.out))) : w.heap.size ≤ gb675)); clear HB; have HB := n0_; have BK675 := n1_; have GW675 := n2_; have GE675 := n3_; clear n0_ n1_ n2_ n3_; clear hb hbox hg; have hcz3_0 : w2.cell? ⟨gb675, 0, none⟩ = some (.int .i64 a0_0) := (blk_cell BK675.out 0).trans rfl; have hcz3_1 : w2.cell? ⟨gb675, 1, none⟩ = some (.slice A0_1 l0_1.length c0_1) := (blk_cell BK675.out 1).trans rfl; have hfz3_0 := blk_frozen BK675.out 0; have hfz3_1 := blk_frozen BK675.out 1))
 go_loopg [8] k (fun kq v8 w' => ∃ (x8_1 : Int), v8 = .int .i64 x8_1 ∧ Aside0 (impl_votes_isProper.l0 kq l0_1 (l0_1.length : Int) x8_1 a0_0 l0_1 = some r) ∧ Aside0 (kq ≤ k) ∧ Aside0 (w'.heap[gb675]? = some (.cells #[.int .i64 a0_0, (.slice A0_1 l0_1.length c0_1)] 68 (0, 0))) ∧ Aside0 (Below w.heap.size w w'))
 case atStart => exact ⟨(0), (by first | rfl | (simp; done) | (simp [*]; done)), H', ⟨Nat.le_refl _⟩, ⟨by (with_reducible repeat (first | refine blk_drewN ?_ _ | refine blk_drew ?_ | refine blk_alloc ?_ _)); exact BK675.out⟩, ⟨by repeat (first | (with_reducible first | exact HB.out | apply below_alloc | apply pw_below_drewN | apply below_drew1 | refine below_set ?_ GE675.out) | exact HB.out)⟩⟩
 case round =>
  clear H'
  try clear c1
  try clear p2
  try clear hcz3_0
  try clear hcz3_1
  try clear hfz3_0
  try clear hfz3_1
  obtain ⟨x8_1, rfl, HA, HK1, BK675, HB⟩ := hrel
  cases gk with
  | zero => exact absurd HA.out (by simp [impl_votes_isProper.l0])
  | succ k1 =>
   have H := HA.out
   clear HA
   simp only [impl_votes_isProper.l0] at H
   by_cases c4 : x8_1 < (l0_1.length : Int)
   ·rw [if_pos c4] at H
    have c4b0 : decide (x8_1 < (l0_1.length : Int)) = true := decide_eq_true c4
    clear c4
    by_cases c5 : 0 ≤ x8_1
    ·rw [if_pos c5] at H
     have c5b0 : decide (0 ≤ x8_1) = true := decide_eq_true c5
     clear c5
     by_cases c6 : x8_1 < (l0_1.length : Int)
     ·rw [if_pos c6] at H
      have c6b0 : decide (x8_1 < (l0_1.length : Int)) = true := decide_eq_true c6
      clear c6
      obtain ⟨bq7, hbq7⟩ : ∃ b_ : Bool, b_ = (rdOf false l0_1 x8_1) := ⟨_, rfl⟩
      replace H : (if bq7 = true then ((impl_votes_all.f a0_0 l0_1).bind fun t677 => (if 0 ≤ (Go.bits .andNot .i64 t677 x8_1) then (if (Go.bits .andNot .i64 t677 x8_1) < (l0_1.length : Int) then (if rdOf false l0_1 (Go.bits .andNot .i64 t677 x8_1) = true then (some false) else (impl_votes_isProper.l0 k1 l0_1 (l0_1.length : Int) (wrap64 (x8_1 + 1)) a0_0 l0_1)) else (none)) else (none))) else (impl_votes_isProper.l0 k1 l0_1 (l0_1.length : Int) (wrap64 (x8_1 + 1)) a0_0 l0_1)) = some r := by rw [← hbq7] at H; exact H
      have Nbq7 := Aside0.mk hbq7
      clear hbq7
      by_cases c8 : bq7 = true
      ·subst c8
       have H1 : ((impl_votes_all.f a0_0 l0_1).bind fun t677 => (if 0 ≤ (Go.bits .andNot .i64 t677 x8_1) then (if (Go.bits .andNot .i64 t677 x8_1) < (l0_1.length : Int) then (if rdOf false l0_1 (Go.bits .andNot .i64 t677 x8_1) = true then (some false) else (impl_votes_isProper.l0 k1 l0_1 (l0_1.length : Int) (wrap64 (x8_1 + 1)) a0_0 l0_1)) else (none)) else (none))) = some r := by rw [if_pos rfl] at H; exact H
       clear H
       have H := H1
       clear H1
       replace H := Option.bind_eq_some_iff.mp H
       obtain ⟨t677, A90, H⟩ := H
       replace H : (if 0 ≤ (Go.bits .andNot .i64 t677 x8_1) then (if (Go.bits .andNot .i64 t677 x8_1) < (l0_1.length : Int) then (if rdOf false l0_1 (Go.bits .andNot .i64 t677 x8_1) = true then (some false) else (impl_votes_isProper.l0 k1 l0_1 (l0_1.length : Int) (wrap64 (x8_1 + 1)) a0_0 l0_1)) else (none)) else (none)) = some r := H
       have A9 := Aside0.mk A90
       clear A90
       by_cases c10 : 0 ≤ (Go.bits .andNot .i64 t677 x8_1)
       ·rw [if_pos c10] at H
        have c10b0 : decide (0 ≤ (Go.bits .andNot .i64 t677 x8_1)) = true := decide_eq_true c10
        clear c10
        by_cases c11 : (Go.bits .andNot .i64 t677 x8_1) < (l0_1.length : Int)
        ·rw [if_pos c11] at H
         have c11b0 : decide ((Go.bits .andNot .i64 t677 x8_1) < (l0_1.length : Int)) = true := decide_eq_true c11
         clear c11
         obtain ⟨bq12, hbq12⟩ : ∃ b_ : Bool, b_ = (rdOf false l0_1 (Go.bits .andNot .i64 t677 x8_1)) := ⟨_, rfl⟩
         replace H : (if bq12 = true then (some false) else (impl_votes_isProper.l0 k1 l0_1 (l0_1.length : Int) (wrap64 (x8_1 + 1)) a0_0 l0_1)) = some r := by rw [← hbq12] at H; exact H
         have Nbq12 := Aside0.mk hbq12
         clear hbq12
         by_cases c13 : bq12 = true
         ·subst c13
          have H1 : (some false) = some r := by rw [if_pos rfl] at H; exact H
          clear H
          have H := H1
          clear H1
          obtain rfl := Option.some.inj H
          have p676 : 0 ≤ (x8_1 : Int) := of_decide_eq_true (by first | (with_reducible assumption) | assumption)
          have q676 : x8_1 < (l0_1.length : Int) := of_decide_eq_true (by first | (with_reducible assumption) | assumption)
          obtain ⟨ad676, e676, hx676_0⟩ := Kd.at_bool HR0_1.out x8_1 p676 q676
          (try rw [← Nbq7.out] at hx676_0)
          (try rw [← Nbq12.out] at hx676_0)
          cases e676
          replace hx676_0 := (HB.out.cell (World.block_lt_of_cell? w _ hx676_0)).trans hx676_0
          replace p676 := eq_true p676
          replace q676 := eq_true q676
          try go_wp2
          have n0_ := Aside0.mk (blk_drew BK675.out)
          have n1_ := Aside0.mk (below_drew1 HB.out)
          clear BK675
          clear HB
          have BK675 := n0_
          have HB := n1_
          clear n0_ n1_
          have p678 : 0 ≤ ((Go.bits .andNot .i64 t677 x8_1) : Int) := of_decide_eq_true (by first | (with_reducible assumption) | assumption)
          have q678 : (Go.bits .andNot .i64 t677 x8_1) < (l0_1.length : Int) := of_decide_eq_true (by first | (with_reducible assumption) | assumption)
          obtain ⟨ad678, e678, hx678_0⟩ := Kd.at_bool HR0_1.out (Go.bits .andNot .i64 t677 x8_1) p678 q678
          have hw678_0 := hx678_0
          (try rw [← Nbq7.out] at hx678_0)
          (try rw [← Nbq7.out] at hw678_0)
          (try rw [← Nbq12.out] at hx678_0)
          (try rw [← Nbq12.out] at hw678_0)
          obtain rfl : ad676 = ad678 := (by injection e678)
          replace hx678_0 := (HB.out.cell (World.block_lt_of_cell? w _ hx678_0)).trans hx678_0
          replace p678 := eq_true p678
          replace q678 := eq_true q678
          refine start_ (n := 11) (S := fun w' => w'.cell? ⟨gb675, 0, none⟩ = some (.int .i64 a0_0) ∧ w'.cell? ⟨gb675, 1, none⟩ = some (.slice (some ad676) l0_1.length c0_1) ∧ w'.cell? (ad676.add ((Go.bits .andNot .i64 t677 x8_1)).toNat) = some (.bool true)) (ds := []) #[false, false, false, false, false, false, false, false, false, false, false] (by kernel_rfl) rfl rfl ⟨(blk_cell BK675.out 0).trans rfl, (blk_cell BK675.out 1).trans rfl, ((HB.out.cell (World.block_lt_of_cell? w _ hw678_0)).trans hw678_0)⟩ (fun hHeld => ?_); refine with_tabW impl_votes_isProper.tab4 impl_votes_isProper.bits4 (fun HT_ HW_ => ?_)
          generalize wr.drew = w14 at BK675 HB hx678_0 hHeld ⊢
          refine pure_ (i := 0) (N := some 13) (v := ?_) (a' := ?_) #[true, false, false, false, false, false, false, false, false, false, false] rfl rfl (any_of HT_.out (by kernel_rfl)) (fun _ _ _ h => h) (Or.inl ⟨by rfl, ?_⟩) ?_ ?_
          rotate_left
          ·intro w'
           go_simp
           with_reducible rfl
          rotate_left
          ·simp only [Act.put, List.setIfInBounds_toArray, List.set_cons_zero, List.set_cons_succ, i64_w, i32_w]
           rfl
          refine pure_ (i := 1) (N := some 14) (v := ?_) (a' := ?_) #[true, true, false, false, false, false, false, false, false, false, false] rfl rfl (any_of HT_.out (by kernel_rfl)) (fun _ _ _ h => h) (Or.inl ⟨by rfl, ?_⟩) ?_ ?_
          rotate_left
          ·intro w'
           go_simp
           with_reducible rfl
          rotate_left
          ·simp only [Act.put, List.setIfInBounds_toArray, List.set_cons_zero, List.set_cons_succ, i64_w, i32_w]
           rfl
          refine pure_ (i := 2) (N := some 15) (v := ?_) (a' := ?_) #[true, true, true, false, false, false, false, false, false, false, false] rfl rfl (any_of HT_.out (by kernel_rfl)) (fun _ _ _ h => h) (Or.inl ⟨by rfl, ?_⟩) ?_ ?_
          rotate_left
          ·intro w'
           go_simp
           with_reducible rfl
          rotate_left
          ·simp only [Act.put, List.setIfInBounds_toArray, List.set_cons_zero, List.set_cons_succ, i64_w, i32_w]
           rfl
          refine pure_ (i := 6) (N := some 19) (v := ?_) (a' := ?_) #[true, true, true, false, false, false, true, false, false, false, false] rfl rfl (any_of HT_.out (by kernel_rfl)) (fun _ _ _ h => h) (Or.inl ⟨by rfl, ?_⟩) ?_ ?_
          rotate_left
          ·intro w'
           go_simp
           with_reducible rfl
          rotate_left
          ·simp only [Act.put, List.setIfInBounds_toArray, List.set_cons_zero, List.set_cons_succ, i64_w, i32_w]
           rfl
          refine take_ (i := 3) (N := some 16) (v := ?_) (a' := ?_) #[true, true, true, true, false, false, true, false, false, false, false] rfl rfl (take_ofW HT_.out HW_.out (by kernel_rfl)) (fun _ _ _ h => h) (Or.inl ⟨by rfl, ?_⟩) hHeld ?_ ?_
          rotate_left
          ·rintro w' ⟨s0, s1, s2⟩
           go_simp
           with_reducible rfl
          rotate_left
          ·simp only [Act.put, List.setIfInBounds_toArray, List.set_cons_zero, List.set_cons_succ, i64_w, i32_w]
           rfl
          refine take_ (i := 4) (N := some 17) (v := ?_) (a' := ?_) #[true, true, true, true, true, false, true, false, false, false, false] rfl rfl (take_ofW HT_.out HW_.out (by kernel_rfl)) (fun _ _ _ h => h) (Or.inl ⟨by rfl, ?_⟩) hHeld ?_ ?_
          rotate_left
          ·rintro w' ⟨s0, s1, s2⟩
           go_simp
           with_reducible rfl
          rotate_left
          ·simp only [Act.put, List.setIfInBounds_toArray, List.set_cons_zero, List.set_cons_succ, i64_w, i32_w]
           rfl
          refine one_ (i := 5) (N := some 18) #[true, true, true, true, true, true, true, false, false, false, false] rfl rfl (one_of HT_.out (by kernel_rfl)) (by decide) (fun K hK => ?_)
          refine goes_ Tryz.func119 (by kernel_rfl) rfl #[.agg #[.int .i64 a0_0, .slice (some ad676) l0_1.length c0_1]] (by rfl) rfl rfl (by (try simp only [List.map_toArray, List.map_cons, List.map_nil]); first | done | rfl | (simp only [List.length_drop, List.length_take]; rfl)) ?_
          with_reducible refine (impl_votes_all.calls a0_0 _ _ l0_1 t677 _ ?side1 ?side2 A9.out).mono ?_
          (case side1 => repeat (first | exact (Kd.C_below HR0_1.out HB.out) | (with_reducible refine Kd.C_alloc ?_ _) | (with_reducible refine Kd.C_drewN ?_ _) | (with_reducible refine Kd.C_drew ?_)))
          (case side2 => exact HC0_1.out)
          rintro e w15 ⟨rfl, hb⟩
          refine ⟨_, rfl, ?_⟩
          have n0_ := Aside0.mk (blk_below (g := gb675) (o := .cells #[.int .i64 a0_0, .slice (some ad676) l0_1.length c0_1] 68 (0, 0)) (by (with_reducible repeat (first | refine blk_drewN ?_ _ | refine blk_drew ?_ | refine blk_alloc ?_ _)); exact BK675.out) hb)
          have n1_ := Aside0.mk (below_step (by repeat (first | (with_reducible first | exact HB.out | apply below_alloc | apply pw_below_drewN | apply below_drew1 | refine below_set ?_ GE675.out) | exact HB.out)) hb)
          clear BK675
          clear HB
          have BK675 := n0_
          have HB := n1_
          clear n0_ n1_
          (try clear hb)
          (try clear hb2)
          (try clear hk)
          (try clear hi)
          refine hK.out _ _ ⟨(blk_cell BK675.out 0).trans rfl, (blk_cell BK675.out 1).trans rfl, ((HB.out.cell (World.block_lt_of_cell? w _ hw678_0)).trans hw678_0)⟩ (fun hHeld => ?_)
          clear hK K
          refine norm_ (a' := ?_) ?_ ?_
          rotate_left
          ·show Act.put _ (some 18) _ = _
           simp only [Act.put, List.setIfInBounds_toArray, List.set_cons_zero, List.set_cons_succ, i64_w, i32_w]
           rfl
          refine pure_ (i := 7) (N := some 20) (v := ?_) (a' := ?_) #[true, true, true, true, true, true, true, true, false, false, false] rfl rfl (any_of HT_.out (by kernel_rfl)) (fun _ _ _ h => h) (Or.inl ⟨by rfl, ?_⟩) ?_ ?_
          rotate_left
          ·intro w'
           go_simp
           with_reducible rfl
          rotate_left
          ·simp only [Act.put, List.setIfInBounds_toArray, List.set_cons_zero, List.set_cons_succ, i64_w, i32_w]
           rfl
          refine pure_ (i := 8) (N := some 21) (v := ?_) (a' := ?_) #[true, true, true, true, true, true, true, true, true, false, false] rfl rfl (any_of HT_.out (by kernel_rfl)) (fun _ _ _ h => h) (Or.inl ⟨by rfl, ?_⟩) ?_ ?_
          rotate_left
          ·intro w'
           go_simp
           with_reducible rfl
          rotate_left
          ·simp only [Act.put, List.setIfInBounds_toArray, List.set_cons_zero, List.set_cons_succ, i64_w, i32_w]
           rfl
          refine take_ (i := 9) (N := some 22) (v := ?_) (a' := ?_) #[true, true, true, true, true, true, true, true, true, true, false] rfl rfl (take_ofW HT_.out HW_.out (by kernel_rfl)) (fun _ _ _ h => h) (Or.inl ⟨by rfl, ?_⟩) hHeld ?_ ?_
          rotate_left
          ·rintro w' ⟨s0, s1, s2⟩
           go_simp
           with_reducible rfl
          rotate_left
          ·simp only [Act.put, List.setIfInBounds_toArray, List.set_cons_zero, List.set_cons_succ, i64_w, i32_w]
           rfl
          refine pure_ (i := 10) (N := some 23) (v := ?_) (a' := ?_) #[true, true, true, true, true, true, true, true, true, true, true] rfl rfl (any_of HT_.out (by kernel_rfl)) (fun _ _ _ h => h) (Or.inl ⟨by rfl, ?_⟩) ?_ ?_
          rotate_left
          ·intro w'
           go_simp
           with_reducible rfl
          rotate_left
          ·simp only [Act.put, List.setIfInBounds_toArray, List.set_cons_zero, List.set_cons_succ, i64_w, i32_w]
           rfl
          refine done_ (done_of HT_.out (by kernel_rfl)) ?_
          try go_wp2
          go_ret
          exact ⟨by first | rfl | (simp [errW_none, errW_some] <;> rfl) | (simp [*, errW_none, errW_some] <;> rfl), by repeat (first | (with_reducible first | exact HB.out | apply below_alloc | apply pw_below_drewN | apply below_drew1 | refine below_set ?_ GE675.out) | exact HB.out)⟩
         ·replace c13 := Bool.eq_false_iff.mpr c13
          subst c13
          have H1 : (impl_votes_isProper.l0 k1 l0_1 (l0_1.length : Int) (wrap64 (x8_1 + 1)) a0_0 l0_1) = some r := by rw [if_neg (show ¬ (false = true) by decide)] at H; exact H
          clear H
          have H := H1
          clear H1
          have H' := Aside0.mk H
          clear H
          have p676 : 0 ≤ (x8_1 : Int) := of_decide_eq_true (by first | (with_reducible assumption) | assumption)
          have q676 : x8_1 < (l0_1.length : Int) := of_decide_eq_true (by first | (with_reducible assumption) | assumption)
          obtain ⟨ad676, e676, hx676_0⟩ := Kd.at_bool HR0_1.out x8_1 p676 q676
          (try rw [← Nbq7.out] at hx676_0)
          (try rw [← Nbq12.out] at hx676_0)
          cases e676
          replace hx676_0 := (HB.out.cell (World.block_lt_of_cell? w _ hx676_0)).trans hx676_0
          replace p676 := eq_true p676
          replace q676 := eq_true q676
          try go_wp2
          have n0_ := Aside0.mk (blk_drew BK675.out)
          have n1_ := Aside0.mk (below_drew1 HB.out)
          clear BK675
          clear HB
          have BK675 := n0_
          have HB := n1_
          clear n0_ n1_
          have p678 : 0 ≤ ((Go.bits .andNot .i64 t677 x8_1) : Int) := of_decide_eq_true (by first | (with_reducible assumption) | assumption)
          have q678 : (Go.bits .andNot .i64 t677 x8_1) < (l0_1.length : Int) := of_decide_eq_true (by first | (with_reducible assumption) | assumption)
          obtain ⟨ad678, e678, hx678_0⟩ := Kd.at_bool HR0_1.out (Go.bits .andNot .i64 t677 x8_1) p678 q678
          have hw678_0 := hx678_0
          (try rw [← Nbq7.out] at hx678_0)
          (try rw [← Nbq7.out] at hw678_0)
          (try rw [← Nbq12.out] at hx678_0)
          (try rw [← Nbq12.out] at hw678_0)
          obtain rfl : ad676 = ad678 := (by injection e678)
          replace hx678_0 := (HB.out.cell (World.block_lt_of_cell? w _ hx678_0)).trans hx678_0
          replace p678 := eq_true p678
          replace q678 := eq_true q678
          refine start_ (n := 11) (S := fun w' => w'.cell? ⟨gb675, 0, none⟩ = some (.int .i64 a0_0) ∧ w'.cell? ⟨gb675, 1, none⟩ = some (.slice (some ad676) l0_1.length c0_1) ∧ w'.cell? (ad676.add ((Go.bits .andNot .i64 t677 x8_1)).toNat) = some (.bool false)) (ds := []) #[false, false, false, false, false, false, false, false, false, false, false] (by kernel_rfl) rfl rfl ⟨(blk_cell BK675.out 0).trans rfl, (blk_cell BK675.out 1).trans rfl, ((HB.out.cell (World.block_lt_of_cell? w _ hw678_0)).trans hw678_0)⟩ (fun hHeld => ?_); refine with_tabW impl_votes_isProper.tab4 impl_votes_isProper.bits4 (fun HT_ HW_ => ?_)
          generalize wr.drew = w16 at BK675 HB hx678_0 hHeld ⊢
          refine pure_ (i := 0) (N := some 13) (v := ?_) (a' := ?_) #[true, false, false, false, false, false, false, false, false, false, false] rfl rfl (any_of HT_.out (by kernel_rfl)) (fun _ _ _ h => h) (Or.inl ⟨by rfl, ?_⟩) ?_ ?_
          rotate_left
          ·intro w'
           go_simp
           with_reducible rfl
          rotate_left
          ·simp only [Act.put, List.setIfInBounds_toArray, List.set_cons_zero, List.set_cons_succ, i64_w, i32_w]
           rfl
          refine pure_ (i := 1) (N := some 14) (v := ?_) (a' := ?_) #[true, true, false, false, false, false, false, false, false, false, false] rfl rfl (any_of HT_.out (by kernel_rfl)) (fun _ _ _ h => h) (Or.inl ⟨by rfl, ?_⟩) ?_ ?_
          rotate_left
          ·intro w'
           go_simp
           with_reducible rfl
          rotate_left
          ·simp only [Act.put, List.setIfInBounds_toArray, List.set_cons_zero, List.set_cons_succ, i64_w, i32_w]
           rfl
          refine pure_ (i := 2) (N := some 15) (v := ?_) (a' := ?_) #[true, true, true, false, false, false, false, false, false, false, false] rfl rfl (any_of HT_.out (by kernel_rfl)) (fun _ _ _ h => h) (Or.inl ⟨by rfl, ?_⟩) ?_ ?_
          rotate_left
          ·intro w'
           go_simp
           with_reducible rfl
          rotate_left
          ·simp only [Act.put, List.setIfInBounds_toArray, List.set_cons_zero, List.set_cons_succ, i64_w, i32_w]
           rfl
          refine pure_ (i := 6) (N := some 19) (v := ?_) (a' := ?_) #[true, true, true, false, false, false, true, false, false, false, false] rfl rfl (any_of HT_.out (by kernel_rfl)) (fun _ _ _ h => h) (Or.inl ⟨by rfl, ?_⟩) ?_ ?_
          rotate_left
          ·intro w'
           go_simp
           with_reducible rfl
          rotate_left
          ·simp only [Act.put, List.setIfInBounds_toArray, List.set_cons_zero, List.set_cons_succ, i64_w, i32_w]
           rfl
          refine take_ (i := 3) (N := some 16) (v := ?_) (a' := ?_) #[true, true, true, true, false, false, true, false, false, false, false] rfl rfl (take_ofW HT_.out HW_.out (by kernel_rfl)) (fun _ _ _ h => h) (Or.inl ⟨by rfl, ?_⟩) hHeld ?_ ?_
          rotate_left
          ·rintro w' ⟨s0, s1, s2⟩
           go_simp
           with_reducible rfl
          rotate_left
          ·simp only [Act.put, List.setIfInBounds_toArray, List.set_cons_zero, List.set_cons_succ, i64_w, i32_w]
           rfl
          refine take_ (i := 4) (N := some 17) (v := ?_) (a' := ?_) #[true, true, true, true, true, false, true, false, false, false, false] rfl rfl (take_ofW HT_.out HW_.out (by kernel_rfl)) (fun _ _ _ h => h) (Or.inl ⟨by rfl, ?_⟩) hHeld ?_ ?_
          rotate_left
          ·rintro w' ⟨s0, s1, s2⟩
           go_simp
           with_reducible rfl
          rotate_left
          ·simp only [Act.put, List.setIfInBounds_toArray, List.set_cons_zero, List.set_cons_succ, i64_w, i32_w]
           rfl
          refine one_ (i := 5) (N := some 18) #[true, true, true, true, true, true, true, false, false, false, false] rfl rfl (one_of HT_.out (by kernel_rfl)) (by decide) (fun K hK => ?_)
          refine goes_ Tryz.func119 (by kernel_rfl) rfl #[.agg #[.int .i64 a0_0, .slice (some ad676) l0_1.length c0_1]] (by rfl) rfl rfl (by (try simp only [List.map_toArray, List.map_cons, List.map_nil]); first | done | rfl | (simp only [List.length_drop, List.length_take]; rfl)) ?_
          with_reducible refine (impl_votes_all.calls a0_0 _ _ l0_1 t677 _ ?side1 ?side2 A9.out).mono ?_
          (case side1 => repeat (first | exact (Kd.C_below HR0_1.out HB.out) | (with_reducible refine Kd.C_alloc ?_ _) | (with_reducible refine Kd.C_drewN ?_ _) | (with_reducible refine Kd.C_drew ?_)))
          (case side2 => exact HC0_1.out)
          rintro e w17 ⟨rfl, hb⟩
          refine ⟨_, rfl, ?_⟩
          have n0_ := Aside0.mk (blk_below (g := gb675) (o := .cells #[.int .i64 a0_0, .slice (some ad676) l0_1.length c0_1] 68 (0, 0)) (by (with_reducible repeat (first | refine blk_drewN ?_ _ | refine blk_drew ?_ | refine blk_alloc ?_ _)); exact BK675.out) hb)
          have n1_ := Aside0.mk (below_step (by repeat (first | (with_reducible first | exact HB.out | apply below_alloc | apply pw_below_drewN | apply below_drew1 | refine below_set ?_ GE675.out) | exact HB.out)) hb)
          clear BK675
          clear HB
          have BK675 := n0_
          have HB := n1_
          clear n0_ n1_
          (try clear hb)
          (try clear hb2)
          (try clear hk)
          (try clear hi)
          refine hK.out _ _ ⟨(blk_cell BK675.out 0).trans rfl, (blk_cell BK675.out 1).trans rfl, ((HB.out.cell (World.block_lt_of_cell? w _ hw678_0)).trans hw678_0)⟩ (fun hHeld => ?_)
          clear hK K
          refine norm_ (a' := ?_) ?_ ?_
          rotate_left
          ·show Act.put _ (some 18) _ = _
           simp only [Act.put, List.setIfInBounds_toArray, List.set_cons_zero, List.set_cons_succ, i64_w, i32_w]
           rfl
          refine pure_ (i := 7) (N := some 20) (v := ?_) (a' := ?_) #[true, true, true, true, true, true, true, true, false, false, false] rfl rfl (any_of HT_.out (by kernel_rfl)) (fun _ _ _ h => h) (Or.inl ⟨by rfl, ?_⟩) ?_ ?_
          rotate_left
          ·intro w'
           go_simp
           with_reducible rfl
          rotate_left
          ·simp only [Act.put, List.setIfInBounds_toArray, List.set_cons_zero, List.set_cons_succ, i64_w, i32_w]
           rfl
          refine pure_ (i := 8) (N := some 21) (v := ?_) (a' := ?_) #[true, true, true, true, true, true, true, true, true, false, false] rfl rfl (any_of HT_.out (by kernel_rfl)) (fun _ _ _ h => h) (Or.inl ⟨by rfl, ?_⟩) ?_ ?_
          rotate_left
          ·intro w'
           go_simp
           with_reducible rfl
          rotate_left
          ·simp only [Act.put, List.setIfInBounds_toArray, List.set_cons_zero, List.set_cons_succ, i64_w, i32_w]
           rfl
          refine take_ (i := 9) (N := some 22) (v := ?_) (a' := ?_) #[true, true, true, true, true, true, true, true, true, true, false] rfl rfl (take_ofW HT_.out HW_.out (by kernel_rfl)) (fun _ _ _ h => h) (Or.inl ⟨by rfl, ?_⟩) hHeld ?_ ?_
          rotate_left
          ·rintro w' ⟨s0, s1, s2⟩
           go_simp
           with_reducible rfl
          rotate_left
          ·simp only [Act.put, List.setIfInBounds_toArray, List.set_cons_zero, List.set_cons_succ, i64_w, i32_w]
           rfl
          refine pure_ (i := 10) (N := some 23) (v := ?_) (a' := ?_) #[true, true, true, true, true, true, true, true, true, true, true] rfl rfl (any_of HT_.out (by kernel_rfl)) (fun _ _ _ h => h) (Or.inl ⟨by rfl, ?_⟩) ?_ ?_
          rotate_left
          ·intro w'
           go_simp
           with_reducible rfl
          rotate_left
          ·simp only [Act.put, List.setIfInBounds_toArray, List.set_cons_zero, List.set_cons_succ, i64_w, i32_w]
           rfl
          refine done_ (done_of HT_.out (by kernel_rfl)) ?_
          try go_wp2
          go_roundg k1
          case measure => have := HK1.out; omega
          case rel => exact ⟨(wrap64 (x8_1 + 1)), (by first | rfl | (simp; done) | (simp [*]; done)), H', ⟨by have := HK1.out; omega⟩, ⟨by (with_reducible repeat (first | refine blk_drewN ?_ _ | refine blk_drew ?_ | refine blk_alloc ?_ _)); exact BK675.out⟩, ⟨by repeat (first | (with_reducible first | exact HB.out | apply below_alloc | apply pw_below_drewN | apply below_drew1 | refine below_set ?_ GE675.out) | exact HB.out)⟩⟩
        ·rw [if_neg c11] at H
         exact absurd H (by simp)
       ·rw [if_neg c10] at H
        exact absurd H (by simp)
      ·replace c8 := Bool.eq_false_iff.mpr c8
       subst c8
       have H1 : (impl_votes_isProper.l0 k1 l0_1 (l0_1.length : Int) (wrap64 (x8_1 + 1)) a0_0 l0_1) = some r := by rw [if_neg (show ¬ (false = true) by decide)] at H; exact H
       clear H
       have H := H1
       clear H1
       have H' := Aside0.mk H
       clear H
       have p676 : 0 ≤ (x8_1 : Int) := of_decide_eq_true (by first | (with_reducible assumption) | assumption)
       have q676 : x8_1 < (l0_1.length : Int) := of_decide_eq_true (by first | (with_reducible assumption) | assumption)
       obtain ⟨ad676, e676, hx676_0⟩ := Kd.at_bool HR0_1.out x8_1 p676 q676
       (try rw [← Nbq7.out] at hx676_0)
       cases e676
       replace hx676_0 := (HB.out.cell (World.block_lt_of_cell? w _ hx676_0)).trans hx676_0
       replace p676 := eq_true p676
       replace q676 := eq_true q676
       try go_wp2
       have n0_ := Aside0.mk (blk_drew BK675.out)
       have n1_ := Aside0.mk (below_drew1 HB.out)
       clear BK675
       clear HB
       have BK675 := n0_
       have HB := n1_
       clear n0_ n1_
       refine start_ (n := 11) (S := fun w' => True) (ds := []) #[false, false, false, false, false, false, false, false, false, false, false] (by kernel_rfl) rfl rfl trivial (fun hHeld => ?_); refine with_tabW impl_votes_isProper.tab4 impl_votes_isProper.bits4 (fun HT_ HW_ => ?_)
       generalize wr.drew = w18 at BK675 HB hHeld ⊢
       refine pure_ (i := 0) (N := some 13) (v := ?_) (a' := ?_) #[true, false, false, false, false, false, false, false, false, false, false] rfl rfl (any_of HT_.out (by kernel_rfl)) (fun _ _ _ h => h) (Or.inl ⟨by rfl, ?_⟩) ?_ ?_
       rotate_left
       ·intro w'
        go_simp
        with_reducible rfl
       rotate_left
       ·simp only [Act.put, List.setIfInBounds_toArray, List.set_cons_zero, List.set_cons_succ, i64_w, i32_w]
        rfl
       refine pure_ (i := 1) (N := some 14) (v := ?_) (a' := ?_) #[true, true, false, false, false, false, false, false, false, false, false] rfl rfl (any_of HT_.out (by kernel_rfl)) (fun _ _ _ h => h) (Or.inl ⟨by rfl, ?_⟩) ?_ ?_
       rotate_left
       ·intro w'
        go_simp
        with_reducible rfl
       rotate_left
       ·simp only [Act.put, List.setIfInBounds_toArray, List.set_cons_zero, List.set_cons_succ, i64_w, i32_w]
        rfl
       refine pure_ (i := 2) (N := some 15) (v := undef) (a' := ?_) #[true, true, true, false, false, false, false, false, false, false, false] rfl rfl (any_of HT_.out (by kernel_rfl)) (fun _ _ _ h => h) (Or.inr ⟨by rfl, rfl⟩) ?_ ?_
       rotate_left
       ·simp only [Act.put, List.setIfInBounds_toArray, List.set_cons_zero, List.set_cons_succ, i64_w, i32_w]
        rfl
       refine pure_ (i := 3) (N := some 16) (v := undef) (a' := ?_) #[true, true, true, true, false, false, false, false, false, false, false] rfl rfl (any_of HT_.out (by kernel_rfl)) (fun _ _ _ h => h) (Or.inr ⟨by rfl, rfl⟩) ?_ ?_
       rotate_left
       ·simp only [Act.put, List.setIfInBounds_toArray, List.set_cons_zero, List.set_cons_succ, i64_w, i32_w]
        rfl
       refine pure_ (i := 4) (N := some 17) (v := undef) (a' := ?_) #[true, true, true, true, true, false, false, false, false, false, false] rfl rfl (any_of HT_.out (by kernel_rfl)) (fun _ _ _ h => h) (Or.inr ⟨by rfl, rfl⟩) ?_ ?_
       rotate_left
       ·simp only [Act.put, List.setIfInBounds_toArray, List.set_cons_zero, List.set_cons_succ, i64_w, i32_w]
        rfl
       refine pure_ (i := 5) (N := some 18) (v := undef) (a' := ?_) #[true, true, true, true, true, true, false, false, false, false, false] rfl rfl (any_of HT_.out (by kernel_rfl)) (fun _ _ _ h => h) (Or.inr ⟨by rfl, rfl⟩) ?_ ?_
       rotate_left
       ·simp only [Act.put, List.setIfInBounds_toArray, List.set_cons_zero, List.set_cons_succ, i64_w, i32_w]
        rfl
       refine pure_ (i := 6) (N := some 19) (v := undef) (a' := ?_) #[true, true, true, true, true, true, true, false, false, false, false] rfl rfl (any_of HT_.out (by kernel_rfl)) (fun _ _ _ h => h) (Or.inr ⟨by rfl, rfl⟩) ?_ ?_
       rotate_left
       ·simp only [Act.put, List.setIfInBounds_toArray, List.set_cons_zero, List.set_cons_succ, i64_w, i32_w]
        rfl
       refine pure_ (i := 7) (N := some 20) (v := undef) (a' := ?_) #[true, true, true, true, true, true, true, true, false, false, false] rfl rfl (any_of HT_.out (by kernel_rfl)) (fun _ _ _ h => h) (Or.inr ⟨by rfl, rfl⟩) ?_ ?_
       rotate_left
       ·simp only [Act.put, List.setIfInBounds_toArray, List.set_cons_zero, List.set_cons_succ, i64_w, i32_w]
        rfl
       refine pure_ (i := 8) (N := some 21) (v := undef) (a' := ?_) #[true, true, true, true, true, true, true, true, true, false, false] rfl rfl (any_of HT_.out (by kernel_rfl)) (fun _ _ _ h => h) (Or.inr ⟨by rfl, rfl⟩) ?_ ?_
       rotate_left
       ·simp only [Act.put, List.setIfInBounds_toArray, List.set_cons_zero, List.set_cons_succ, i64_w, i32_w]
        rfl
       refine pure_ (i := 9) (N := some 22) (v := undef) (a' := ?_) #[true, true, true, true, true, true, true, true, true, true, false] rfl rfl (any_of HT_.out (by kernel_rfl)) (fun _ _ _ h => h) (Or.inr ⟨by rfl, rfl⟩) ?_ ?_
       rotate_left
       ·simp only [Act.put, List.setIfInBounds_toArray, List.set_cons_zero, List.set_cons_succ, i64_w, i32_w]
        rfl
       refine pure_ (i := 10) (N := some 23) (v := ?_) (a' := ?_) #[true, true, true, true, true, true, true, true, true, true, true] rfl rfl (any_of HT_.out (by kernel_rfl)) (fun _ _ _ h => h) (Or.inl ⟨by rfl, ?_⟩) ?_ ?_
       rotate_left
       ·intro w'
        go_simp
        with_reducible rfl
       rotate_left
       ·simp only [Act.put, List.setIfInBounds_toArray, List.set_cons_zero, List.set_cons_succ, i64_w, i32_w]
        rfl
       refine done_ (done_of HT_.out (by kernel_rfl)) ?_
       try go_wp2
       go_roundg k1
       case measure => have := HK1.out; omega
       case rel => exact ⟨(wrap64 (x8_1 + 1)), (by first | rfl | (simp; done) | (simp [*]; done)), H', ⟨by have := HK1.out; omega⟩, ⟨by (with_reducible repeat (first | refine blk_drewN ?_ _ | refine blk_drew ?_ | refine blk_alloc ?_ _)); exact BK675.out⟩, ⟨by repeat (first | (with_reducible first | exact HB.out | apply below_alloc | apply pw_below_drewN | apply below_drew1 | refine below_set ?_ GE675.out) | exact HB.out)⟩⟩
     ·rw [if_neg c6] at H
      exact absurd H (by simp)
    ·rw [if_neg c5] at H
     exact absurd H (by simp)
   ·rw [if_neg c4] at H
    have c4b0 : decide (x8_1 < (l0_1.length : Int)) = false := decide_eq_false c4
    clear c4
    obtain rfl := Option.some.inj H
    go_wp2
    go_ret
    exact ⟨by first | rfl | (simp [errW_none, errW_some] <;> rfl) | (simp [*, errW_none, errW_some] <;> rfl), by repeat (first | (with_reducible first | exact HB.out | apply below_alloc | apply pw_below_drewN | apply below_drew1 | refine below_set ?_ GE675.out) | exact HB.out)⟩
end Go.Proofs.YtnncjnjfdhbddaaGreat.Z
namespace Go.Proofs.YtnncjnjfdhbddaaGreat.Z
open Go.RowKit Go.Proofs.YtnncjnjfdhbddaaGreatW.PrintWords Go.Proofs.YtnncjnjfdhbddaaGreatW.PrintLast Go.Proofs.YtnncjnjfdhbddaaGreatW.PrintMore
attribute [local go_sem] max2_int min2_int max_two min_two max_three min_three max_four min_four
set_option linter.unusedVariables false
set_option linter.unusedSimpArgs false
def impl_votes_isStrong.l0 : Nat → List Bool → Int → Int → Int → List Bool → Option (Bool)
 | 0, _, _, _, _, _ => none
 | k + 1, x6, x7, x8, x680000, x680001 => if x8 < x7 then (if 0 ≤ x8 then (if x8 < (x6.length : Int) then (if rdOf false x6 x8 = true then (impl_votes_isStrong.l0 k x6 x7 (wrap64 (x8 + 1)) x680000 x680001) else ((impl_votes_all.f x680000 x680001).bind fun t681 => (if 0 ≤ (Go.bits .andNot .i64 t681 x8) then (if (Go.bits .andNot .i64 t681 x8) < (x680001.length : Int) then (if (rdOf false x680001 (Go.bits .andNot .i64 t681 x8) = true) then (impl_votes_isStrong.l0 k x6 x7 (wrap64 (x8 + 1)) x680000 x680001) else (some false)) else (none)) else (none)))) else (none)) else (none)) else (some true)
def impl_votes_isStrong.f (k : Nat) (a0_0 : Int) (l0_1 : List Bool) : Option (Bool) := impl_votes_isStrong.l0 k l0_1 (l0_1.length : Int) 0 a0_0 l0_1
def impl_votes_isStrong.T4 : Bool × List (List Nat × List Nat) := (true, [([], []), ([0], [0]), ([1], [1]), ([2], [2]), ([3, 2], [2, 3]), ([2], [2]), ([5, 2, 2], [2, 5]), ([2], [2]), ([6, 7, 2], [2, 6, 7]), ([4, 8, 2], [2, 4, 8]), ([9, 2], [2, 9]), ([10, 2], [2, 10]), ([2, 11], [2, 11])])
def impl_votes_isStrong.B4 : List Nat := [0, 1, 3, 7, 15, 7, 39, 7, 231, 511, 1023, 2047, 4095]
theorem impl_votes_isStrong.tab4 : rtab .any (opsOf Tryz.f135 4) = impl_votes_isStrong.T4 := by kernel_rfl
theorem impl_votes_isStrong.bits4 : waitsOk impl_votes_isStrong.T4.2 impl_votes_isStrong.B4 = true := by kernel_rfl
set_option maxHeartbeats 8000000 in
set_option maxRecDepth 100000 in
theorem impl_votes_isStrong.calls (k : Nat) (a0_0 : Int) (A0_1 : Option Addr) (c0_1 : Nat) (l0_1 : List Bool) (r : Bool) (w : World) (hr0_1 : Kd.C Kd.bool w A0_1 l0_1.length l0_1) (hc0_1 : l0_1.length ≤ c0_1) (h : impl_votes_isStrong.f k a0_0 l0_1 = some r) :
  Calls Tryz.prog 135 #[.agg #[.int .i64 a0_0, .slice A0_1 l0_1.length c0_1]] w fun e w' => e = .returned (.bool r) ∧ Below w.heap.size w w' := by
 have hu68 := Tryz.underlying68
 have HR0_1 := Aside0.mk hr0_1
 have HC0_1 := Aside0.mk hc0_1
 clear hr0_1 hc0_1
 have HB := Aside0.mk (Below.refl w.heap.size w)
 have H : (impl_votes_isStrong.l0 k l0_1 (l0_1.length : Int) 0 a0_0 l0_1) = some r := h
 clear h
 have H' := Aside0.mk H
 clear H
 go_enter Tryz.func135, Tryz.ntmps135
 go_wp2_with (first | ((with_reducible refine gate_dst (N := 1) rfl ?_); refine box_event ?hg (N := 1) ?hd (cs := #[.int .i64 a0_0, .slice A0_1 l0_1.length c0_1]) (t := 68) ?hr ?_; (case hd => rfl); (case hg => rfl); (case hr => first | (go_simp; done) | (go_simp; rfl)); intro gb679 hg w2 hbox hb; have n0_ := Aside0.mk (below_step (by repeat (first | (with_reducible first | exact HB.out | apply below_alloc | apply pw_below_drewN | apply below_drew1) | exact HB.out)) hb); have n1_ := Aside0.mk (hbox); have n2_ := Aside0.mk ((by rw [hg]; exact (below_size (by repeat (first | (with_reducible first | exact HB.out | apply below_alloc | apply pw_below_drewN | apply below_drew1) | exact HB.out))) : w.heap.size ≤ gb679)); have n3_ := Aside0.mk ((by rw [hg]; exact (below_size (by repeat (first | (with_reducible first | exact HB.out | apply below_alloc | apply pw_below_drewN | apply below_drew1) | exact HB.out))) : w.heap.size ≤ gb679)); clear HB; have HB := n0_; have BK679 := n1_; have GW679 := n2_; have GE679 := n3_; clear n0_ n1_ n2_ n3_; clear hb hbox hg; have hcz3_0 : w2.cell? ⟨gb679, 0, none⟩ = some (.int .i64 a0_0) := (blk_cell BK679.out 0).trans rfl; have hcz3_1 : w2.cell? ⟨gb679, 1, none⟩ = some (.slice A0_1 l0_1.length c0_1) := (blk_cell BK679.out 1).trans rfl; have hfz3_0 := blk_frozen BK679.out 0; have hfz3_1 := blk_frozen BK679.out 1))
 go_loopg [8] k (fun kq v8 w' => ∃ (x8_1 : Int), v8 = .int .i64 x8_1 ∧ Aside0 (impl_votes_isStrong.l0 kq l0_1 (l0_1.length : Int) x8_1 a0_0 l0_1 = some r) ∧ Aside0 (kq ≤ k) ∧ Aside0 (w'.heap[gb679]? = some (.cells #[.int .i64 a0_0, (.slice A0_1 l0_1.length c0_1)] 68 (0, 0))) ∧ Aside0 (Below w.heap.size w w'))
 case atStart => exact ⟨(0), (by first | rfl | (simp; done) | (simp [*]; done)), H', ⟨Nat.le_refl _⟩, ⟨by (with_reducible repeat (first | refine blk_drewN ?_ _ | refine blk_drew ?_ | refine blk_alloc ?_ _)); exact BK679.out⟩, ⟨by repeat (first | (with_reducible first | exact HB.out | apply below_alloc | apply pw_below_drewN | apply below_drew1 | refine below_set ?_ GE679.out) | exact HB.out)⟩⟩
 case round =>
  clear H'
  try clear c1
  try clear p2
  try clear hcz3_0
  try clear hcz3_1
  try clear hfz3_0
  try clear hfz3_1
  obtain ⟨x8_1, rfl, HA, HK1, BK679, HB⟩ := hrel
  cases gk with
  | zero => exact absurd HA.out (by simp [impl_votes_isStrong.l0])
  | succ k1 =>
   have H := HA.out
   clear HA
   simp only [impl_votes_isStrong.l0] at H
   by_cases c4 : x8_1 < (l0_1.length : Int)
   ·rw [if_pos c4] at H
    have c4b0 : decide (x8_1 < (l0_1.length : Int)) = true := decide_eq_true c4
    clear c4
    by_cases c5 : 0 ≤ x8_1
    ·rw [if_pos c5] at H
     have c5b0 : decide (0 ≤ x8_1) = true := decide_eq_true c5
     clear c5
     by_cases c6 : x8_1 < (l0_1.length : Int)
     ·rw [if_pos c6] at H
      have c6b0 : decide (x8_1 < (l0_1.length : Int)) = true := decide_eq_true c6
      clear c6
      obtain ⟨bq7, hbq7⟩ : ∃ b_ : Bool, b_ = (rdOf false l0_1 x8_1) := ⟨_, rfl⟩
      replace H : (if bq7 = true then (impl_votes_isStrong.l0 k1 l0_1 (l0_1.length : Int) (wrap64 (x8_1 + 1)) a0_0 l0_1) else ((impl_votes_all.f a0_0 l0_1).bind fun t681 => (if 0 ≤ (Go.bits .andNot .i64 t681 x8_1) then (if (Go.bits .andNot .i64 t681 x8_1) < (l0_1.length : Int) then (if (rdOf false l0_1 (Go.bits .andNot .i64 t681 x8_1) = true) then (impl_votes_isStrong.l0 k1 l0_1 (l0_1.length : Int) (wrap64 (x8_1 + 1)) a0_0 l0_1) else (some false)) else (none)) else (none)))) = some r := by rw [← hbq7] at H; exact H
      have Nbq7 := Aside0.mk hbq7
      clear hbq7
      by_cases c8 : bq7 = true
      ·subst c8
       have H1 : (impl_votes_isStrong.l0 k1 l0_1 (l0_1.length : Int) (wrap64 (x8_1 + 1)) a0_0 l0_1) = some r := by rw [if_pos rfl] at H; exact H
       clear H
       have H := H1
       clear H1
       have H' := Aside0.mk H
       clear H
       have p680 : 0 ≤ (x8_1 : Int) := of_decide_eq_true (by first | (with_reducible assumption) | assumption)
       have q680 : x8_1 < (l0_1.length : Int) := of_decide_eq_true (by first | (with_reducible assumption) | assumption)
       obtain ⟨ad680, e680, hx680_0⟩ := Kd.at_bool HR0_1.out x8_1 p680 q680
       (try rw [← Nbq7.out] at hx680_0)
       cases e680
       replace hx680_0 := (HB.out.cell (World.block_lt_of_cell? w _ hx680_0)).trans hx680_0
       replace p680 := eq_true p680
       replace q680 := eq_true q680
       try go_wp2
       have n0_ := Aside0.mk (blk_drew BK679.out)
       have n1_ := Aside0.mk (below_drew1 HB.out)
       clear BK679
       clear HB
       have BK679 := n0_
       have HB := n1_
       clear n0_ n1_
       refine start_ (n := 13) (S := fun w' => True) (ds := []) #[false, false, false, false, false, false, false, false, false, false, false, false, false] (by kernel_rfl) rfl rfl trivial (fun hHeld => ?_); refine with_tabW impl_votes_isStrong.tab4 impl_votes_isStrong.bits4 (fun HT_ HW_ => ?_)
       generalize wr.drew = w9 at BK679 HB hHeld ⊢
       refine pure_ (i := 0) (N := some 13) (v := ?_) (a' := ?_) #[true, false, false, false, false, false, false, false, false, false, false, false, false] rfl rfl (any_of HT_.out (by kernel_rfl)) (fun _ _ _ h => h) (Or.inl ⟨by rfl, ?_⟩) ?_ ?_
       rotate_left
       ·intro w'
        go_simp
        with_reducible rfl
       rotate_left
       ·simp only [Act.put, List.setIfInBounds_toArray, List.set_cons_zero, List.set_cons_succ, i64_w, i32_w]
        rfl
       refine pure_ (i := 1) (N := some 14) (v := ?_) (a' := ?_) #[true, true, false, false, false, false, false, false, false, false, false, false, false] rfl rfl (any_of HT_.out (by kernel_rfl)) (fun _ _ _ h => h) (Or.inl ⟨by rfl, ?_⟩) ?_ ?_
       rotate_left
       ·intro w'
        go_simp
        with_reducible rfl
       rotate_left
       ·simp only [Act.put, List.setIfInBounds_toArray, List.set_cons_zero, List.set_cons_succ, i64_w, i32_w]
        rfl
       refine pure_ (i := 2) (N := some 15) (v := ?_) (a' := ?_) #[true, true, true, false, false, false, false, false, false, false, false, false, false] rfl rfl (any_of HT_.out (by kernel_rfl)) (fun _ _ _ h => h) (Or.inl ⟨by rfl, ?_⟩) ?_ ?_
       rotate_left
       ·intro w'
        go_simp
        with_reducible rfl
       rotate_left
       ·simp only [Act.put, List.setIfInBounds_toArray, List.set_cons_zero, List.set_cons_succ, i64_w, i32_w]
        rfl
       refine pure_ (i := 3) (N := some 16) (v := undef) (a' := ?_) #[true, true, true, true, false, false, false, false, false, false, false, false, false] rfl rfl (any_of HT_.out (by kernel_rfl)) (fun _ _ _ h => h) (Or.inr ⟨by rfl, rfl⟩) ?_ ?_
       rotate_left
       ·simp only [Act.put, List.setIfInBounds_toArray, List.set_cons_zero, List.set_cons_succ, i64_w, i32_w]
        rfl
       refine pure_ (i := 4) (N := some 17) (v := undef) (a' := ?_) #[true, true, true, true, true, false, false, false, false, false, false, false, false] rfl rfl (any_of HT_.out (by kernel_rfl)) (fun _ _ _ h => h) (Or.inr ⟨by rfl, rfl⟩) ?_ ?_
       rotate_left
       ·simp only [Act.put, List.setIfInBounds_toArray, List.set_cons_zero, List.set_cons_succ, i64_w, i32_w]
        rfl
       refine pure_ (i := 5) (N := some 18) (v := undef) (a' := ?_) #[true, true, true, true, true, true, false, false, false, false, false, false, false] rfl rfl (any_of HT_.out (by kernel_rfl)) (fun _ _ _ h => h) (Or.inr ⟨by rfl, rfl⟩) ?_ ?_
       rotate_left
       ·simp only [Act.put, List.setIfInBounds_toArray, List.set_cons_zero, List.set_cons_succ, i64_w, i32_w]
        rfl
       refine pure_ (i := 6) (N := some 19) (v := undef) (a' := ?_) #[true, true, true, true, true, true, true, false, false, false, false, false, false] rfl rfl (any_of HT_.out (by kernel_rfl)) (fun _ _ _ h => h) (Or.inr ⟨by rfl, rfl⟩) ?_ ?_
       rotate_left
       ·simp only [Act.put, List.setIfInBounds_toArray, List.set_cons_zero, List.set_cons_succ, i64_w, i32_w]
        rfl
       refine pure_ (i := 7) (N := some 20) (v := undef) (a' := ?_) #[true, true, true, true, true, true, true, true, false, false, false, false, false] rfl rfl (any_of HT_.out (by kernel_rfl)) (fun _ _ _ h => h) (Or.inr ⟨by rfl, rfl⟩) ?_ ?_
       rotate_left
       ·simp only [Act.put, List.setIfInBounds_toArray, List.set_cons_zero, List.set_cons_succ, i64_w, i32_w]
        rfl
       refine pure_ (i := 8) (N := some 21) (v := undef) (a' := ?_) #[true, true, true, true, true, true, true, true, true, false, false, false, false] rfl rfl (any_of HT_.out (by kernel_rfl)) (fun _ _ _ h => h) (Or.inr ⟨by rfl, rfl⟩) ?_ ?_
       rotate_left
       ·simp only [Act.put, List.setIfInBounds_toArray, List.set_cons_zero, List.set_cons_succ, i64_w, i32_w]
        rfl
       refine pure_ (i := 9) (N := some 22) (v := undef) (a' := ?_) #[true, true, true, true, true, true, true, true, true, true, false, false, false] rfl rfl (any_of HT_.out (by kernel_rfl)) (fun _ _ _ h => h) (Or.inr ⟨by rfl, rfl⟩) ?_ ?_
       rotate_left
       ·simp only [Act.put, List.setIfInBounds_toArray, List.set_cons_zero, List.set_cons_succ, i64_w, i32_w]
        rfl
       refine pure_ (i := 10) (N := some 23) (v := undef) (a' := ?_) #[true, true, true, true, true, true, true, true, true, true, true, false, false] rfl rfl (any_of HT_.out (by kernel_rfl)) (fun _ _ _ h => h) (Or.inr ⟨by rfl, rfl⟩) ?_ ?_
       rotate_left
       ·simp only [Act.put, List.setIfInBounds_toArray, List.set_cons_zero, List.set_cons_succ, i64_w, i32_w]
        rfl
       refine pure_ (i := 11) (N := some 24) (v := undef) (a' := ?_) #[true, true, true, true, true, true, true, true, true, true, true, true, false] rfl rfl (any_of HT_.out (by kernel_rfl)) (fun _ _ _ h => h) (Or.inr ⟨by rfl, rfl⟩) ?_ ?_
       rotate_left
       ·simp only [Act.put, List.setIfInBounds_toArray, List.set_cons_zero, List.set_cons_succ, i64_w, i32_w]
        rfl
       refine pure_ (i := 12) (N := some 25) (v := ?_) (a' := ?_) #[true, true, true, true, true, true, true, true, true, true, true, true, true] rfl rfl (any_of HT_.out (by kernel_rfl)) (fun _ _ _ h => h) (Or.inl ⟨by rfl, ?_⟩) ?_ ?_
       rotate_left
       ·intro w'
        go_simp
        with_reducible rfl
       rotate_left
       ·simp only [Act.put, List.setIfInBounds_toArray, List.set_cons_zero, List.set_cons_succ, i64_w, i32_w]
        rfl
       refine done_ (done_of HT_.out (by kernel_rfl)) ?_
       try go_wp2
       go_roundg k1
       case measure => have := HK1.out; omega
       case rel => exact ⟨(wrap64 (x8_1 + 1)), (by first | rfl | (simp; done) | (simp [*]; done)), H', ⟨by have := HK1.out; omega⟩, ⟨by (with_reducible repeat (first | refine blk_drewN ?_ _ | refine blk_drew ?_ | refine blk_alloc ?_ _)); exact BK679.out⟩, ⟨by repeat (first | (with_reducible first | exact HB.out | apply below_alloc | apply pw_below_drewN | apply below_drew1 | refine below_set ?_ GE679.out) | exact HB.out)⟩⟩
      ·replace c8 := Bool.eq_false_iff.mpr c8
       subst c8
       have H1 : ((impl_votes_all.f a0_0 l0_1).bind fun t681 => (if 0 ≤ (Go.bits .andNot .i64 t681 x8_1) then (if (Go.bits .andNot .i64 t681 x8_1) < (l0_1.length : Int) then (if (rdOf false l0_1 (Go.bits .andNot .i64 t681 x8_1) = true) then (impl_votes_isStrong.l0 k1 l0_1 (l0_1.length : Int) (wrap64 (x8_1 + 1)) a0_0 l0_1) else (some false)) else (none)) else (none))) = some r := by rw [if_neg (show ¬ (false = true) by decide)] at H; exact H
       clear H
       have H := H1
       clear H1
       replace H := Option.bind_eq_some_iff.mp H
       obtain ⟨t681, A100, H⟩ := H
       replace H : (if 0 ≤ (Go.bits .andNot .i64 t681 x8_1) then (if (Go.bits .andNot .i64 t681 x8_1) < (l0_1.length : Int) then (if (rdOf false l0_1 (Go.bits .andNot .i64 t681 x8_1) = true) then (impl_votes_isStrong.l0 k1 l0_1 (l0_1.length : Int) (wrap64 (x8_1 + 1)) a0_0 l0_1) else (some false)) else (none)) else (none)) = some r := H
       have A10 := Aside0.mk A100
       clear A100
       by_cases c11 : 0 ≤ (Go.bits .andNot .i64 t681 x8_1)
       ·rw [if_pos c11] at H
        have c11b0 : decide (0 ≤ (Go.bits .andNot .i64 t681 x8_1)) = true := decide_eq_true c11
        clear c11
        by_cases c12 : (Go.bits .andNot .i64 t681 x8_1) < (l0_1.length : Int)
        ·rw [if_pos c12] at H
         have c12b0 : decide ((Go.bits .andNot .i64 t681 x8_1) < (l0_1.length : Int)) = true := decide_eq_true c12
         clear c12
         obtain ⟨bq13, hbq13⟩ : ∃ b_ : Bool, b_ = (rdOf false l0_1 (Go.bits .andNot .i64 t681 x8_1)) := ⟨_, rfl⟩
         replace H : (if (bq13 = true) then (impl_votes_isStrong.l0 k1 l0_1 (l0_1.length : Int) (wrap64 (x8_1 + 1)) a0_0 l0_1) else (some false)) = some r := by rw [← hbq13] at H; exact H
         have Nbq13 := Aside0.mk hbq13
         clear hbq13
         by_cases c14 : (bq13 = true)
         ·subst c14
          have H1 : (impl_votes_isStrong.l0 k1 l0_1 (l0_1.length : Int) (wrap64 (x8_1 + 1)) a0_0 l0_1) = some r := by rw [if_pos rfl] at H; exact H
          clear H
          have H := H1
          clear H1
          have H' := Aside0.mk H
          clear H
          have p680 : 0 ≤ (x8_1 : Int) := of_decide_eq_true (by first | (with_reducible assumption) | assumption)
          have q680 : x8_1 < (l0_1.length : Int) := of_decide_eq_true (by first | (with_reducible assumption) | assumption)
          obtain ⟨ad680, e680, hx680_0⟩ := Kd.at_bool HR0_1.out x8_1 p680 q680
          (try rw [← Nbq7.out] at hx680_0)
          (try rw [← Nbq13.out] at hx680_0)
          cases e680
          replace hx680_0 := (HB.out.cell (World.block_lt_of_cell? w _ hx680_0)).trans hx680_0
          replace p680 := eq_true p680
          replace q680 := eq_true q680
          try go_wp2
          have n0_ := Aside0.mk (blk_drew BK679.out)
          have n1_ := Aside0.mk (below_drew1 HB.out)
          clear BK679
          clear HB
          have BK679 := n0_
          have HB := n1_
          clear n0_ n1_
          have p682 : 0 ≤ ((Go.bits .andNot .i64 t681 x8_1) : Int) := of_decide_eq_true (by first | (with_reducible assumption) | assumption)
          have q682 : (Go.bits .andNot .i64 t681 x8_1) < (l0_1.length : Int) := of_decide_eq_true (by first | (with_reducible assumption) | assumption)
          obtain ⟨ad682, e682, hx682_0⟩ := Kd.at_bool HR0_1.out (Go.bits .andNot .i64 t681 x8_1) p682 q682
          have hw682_0 := hx682_0
          (try rw [← Nbq7.out] at hx682_0)
          (try rw [← Nbq7.out] at hw682_0)
          (try rw [← Nbq13.out] at hx682_0)
          (try rw [← Nbq13.out] at hw682_0)
          obtain rfl : ad680 = ad682 := (by injection e682)
          replace hx682_0 := (HB.out.cell (World.block_lt_of_cell? w _ hx682_0)).trans hx682_0
          replace p682 := eq_true p682
          replace q682 := eq_true q682
          refine start_ (n := 13) (S := fun w' => w'.cell? ⟨gb679, 0, none⟩ = some (.int .i64 a0_0) ∧ w'.cell? ⟨gb679, 1, none⟩ = some (.slice (some ad680) l0_1.length c0_1) ∧ w'.cell? (ad680.add ((Go.bits .andNot .i64 t681 x8_1)).toNat) = some (.bool true)) (ds := []) #[false, false, false, false, false, false, false, false, false, false, false, false, false] (by kernel_rfl) rfl rfl ⟨(blk_cell BK679.out 0).trans rfl, (blk_cell BK679.out 1).trans rfl, ((HB.out.cell (World.block_lt_of_cell? w _ hw682_0)).trans hw682_0)⟩ (fun hHeld => ?_); refine with_tabW impl_votes_isStrong.tab4 impl_votes_isStrong.bits4 (fun HT_ HW_ => ?_)
          generalize wr.drew = w15 at BK679 HB hx682_0 hHeld ⊢
          refine pure_ (i := 0) (N := some 13) (v := ?_) (a' := ?_) #[true, false, false, false, false, false, false, false, false, false, false, false, false] rfl rfl (any_of HT_.out (by kernel_rfl)) (fun _ _ _ h => h) (Or.inl ⟨by rfl, ?_⟩) ?_ ?_
          rotate_left
          ·intro w'
           go_simp
           with_reducible rfl
          rotate_left
          ·simp only [Act.put, List.setIfInBounds_toArray, List.set_cons_zero, List.set_cons_succ, i64_w, i32_w]
           rfl
          refine pure_ (i := 1) (N := some 14) (v := ?_) (a' := ?_) #[true, true, false, false, false, false, false, false, false, false, false, false, false] rfl rfl (any_of HT_.out (by kernel_rfl)) (fun _ _ _ h => h) (Or.inl ⟨by rfl, ?_⟩) ?_ ?_
          rotate_left
          ·intro w'
           go_simp
           with_reducible rfl
          rotate_left
          ·simp only [Act.put, List.setIfInBounds_toArray, List.set_cons_zero, List.set_cons_succ, i64_w, i32_w]
           rfl
          refine pure_ (i := 2) (N := some 15) (v := ?_) (a' := ?_) #[true, true, true, false, false, false, false, false, false, false, false, false, false] rfl rfl (any_of HT_.out (by kernel_rfl)) (fun _ _ _ h => h) (Or.inl ⟨by rfl, ?_⟩) ?_ ?_
          rotate_left
          ·intro w'
           go_simp
           with_reducible rfl
          rotate_left
          ·simp only [Act.put, List.setIfInBounds_toArray, List.set_cons_zero, List.set_cons_succ, i64_w, i32_w]
           rfl
          refine pure_ (i := 3) (N := some 16) (v := ?_) (a' := ?_) #[true, true, true, true, false, false, false, false, false, false, false, false, false] rfl rfl (any_of HT_.out (by kernel_rfl)) (fun _ _ _ h => h) (Or.inl ⟨by rfl, ?_⟩) ?_ ?_
          rotate_left
          ·intro w'
           go_simp
           with_reducible rfl
          rotate_left
          ·simp only [Act.put, List.setIfInBounds_toArray, List.set_cons_zero, List.set_cons_succ, i64_w, i32_w]
           rfl
          refine pure_ (i := 7) (N := some 20) (v := ?_) (a' := ?_) #[true, true, true, true, false, false, false, true, false, false, false, false, false] rfl rfl (any_of HT_.out (by kernel_rfl)) (fun _ _ _ h => h) (Or.inl ⟨by rfl, ?_⟩) ?_ ?_
          rotate_left
          ·intro w'
           go_simp
           with_reducible rfl
          rotate_left
          ·simp only [Act.put, List.setIfInBounds_toArray, List.set_cons_zero, List.set_cons_succ, i64_w, i32_w]
           rfl
          refine take_ (i := 4) (N := some 17) (v := ?_) (a' := ?_) #[true, true, true, true, true, false, false, true, false, false, false, false, false] rfl rfl (take_ofW HT_.out HW_.out (by kernel_rfl)) (fun _ _ _ h => h) (Or.inl ⟨by rfl, ?_⟩) hHeld ?_ ?_
          rotate_left
          ·rintro w' ⟨s0, s1, s2⟩
           go_simp
           with_reducible rfl
          rotate_left
          ·simp only [Act.put, List.setIfInBounds_toArray, List.set_cons_zero, List.set_cons_succ, i64_w, i32_w]
           rfl
          refine take_ (i := 5) (N := some 18) (v := ?_) (a' := ?_) #[true, true, true, true, true, true, false, true, false, false, false, false, false] rfl rfl (take_ofW HT_.out HW_.out (by kernel_rfl)) (fun _ _ _ h => h) (Or.inl ⟨by rfl, ?_⟩) hHeld ?_ ?_
          rotate_left
          ·rintro w' ⟨s0, s1, s2⟩
           go_simp
           with_reducible rfl
          rotate_left
          ·simp only [Act.put, List.setIfInBounds_toArray, List.set_cons_zero, List.set_cons_succ, i64_w, i32_w]
           rfl
          refine one_ (i := 6) (N := some 19) #[true, true, true, true, true, true, true, true, false, false, false, false, false] rfl rfl (one_of HT_.out (by kernel_rfl)) (by decide) (fun K hK => ?_)
          refine goes_ Tryz.func119 (by kernel_rfl) rfl #[.agg #[.int .i64 a0_0, .slice (some ad680) l0_1.length c0_1]] (by rfl) rfl rfl (by (try simp only [List.map_toArray, List.map_cons, List.map_nil]); first | done | rfl | (simp only [List.length_drop, List.length_take]; rfl)) ?_
          with_reducible refine (impl_votes_all.calls a0_0 _ _ l0_1 t681 _ ?side1 ?side2 A10.out).mono ?_
          (case side1 => repeat (first | exact (Kd.C_below HR0_1.out HB.out) | (with_reducible refine Kd.C_alloc ?_ _) | (with_reducible refine Kd.C_drewN ?_ _) | (with_reducible refine Kd.C_drew ?_)))
          (case side2 => exact HC0_1.out)
          rintro e w16 ⟨rfl, hb⟩
          refine ⟨_, rfl, ?_⟩
          have n0_ := Aside0.mk (blk_below (g := gb679) (o := .cells #[.int .i64 a0_0, .slice (some ad680) l0_1.length c0_1] 68 (0, 0)) (by (with_reducible repeat (first | refine blk_drewN ?_ _ | refine blk_drew ?_ | refine blk_alloc ?_ _)); exact BK679.out) hb)
          have n1_ := Aside0.mk (below_step (by repeat (first | (with_reducible first | exact HB.out | apply below_alloc | apply pw_below_drewN | apply below_drew1 | refine below_set ?_ GE679.out) | exact HB.out)) hb)
          clear BK679
          clear HB
          have BK679 := n0_
          have HB := n1_
          clear n0_ n1_
          (try clear hb)
          (try clear hb2)
          (try clear hk)
          (try clear hi)
          refine hK.out _ _ ⟨(blk_cell BK679.out 0).trans rfl, (blk_cell BK679.out 1).trans rfl, ((HB.out.cell (World.block_lt_of_cell? w _ hw682_0)).trans hw682_0)⟩ (fun hHeld => ?_)
          clear hK K
          refine norm_ (a' := ?_) ?_ ?_
          rotate_left
          ·show Act.put _ (some 19) _ = _
           simp only [Act.put, List.setIfInBounds_toArray, List.set_cons_zero, List.set_cons_succ, i64_w, i32_w]
           rfl
          refine pure_ (i := 8) (N := some 21) (v := ?_) (a' := ?_) #[true, true, true, true, true, true, true, true, true, false, false, false, false] rfl rfl (any_of HT_.out (by kernel_rfl)) (fun _ _ _ h => h) (Or.inl ⟨by rfl, ?_⟩) ?_ ?_
          rotate_left
          ·intro w'
           go_simp
           with_reducible rfl
          rotate_left
          ·simp only [Act.put, List.setIfInBounds_toArray, List.set_cons_zero, List.set_cons_succ, i64_w, i32_w]
           rfl
          refine pure_ (i := 9) (N := some 22) (v := ?_) (a' := ?_) #[true, true, true, true, true, true, true, true, true, true, false, false, false] rfl rfl (any_of HT_.out (by kernel_rfl)) (fun _ _ _ h => h) (Or.inl ⟨by rfl, ?_⟩) ?_ ?_
          rotate_left
          ·intro w'
           go_simp
           with_reducible rfl
          rotate_left
          ·simp only [Act.put, List.setIfInBounds_toArray, List.set_cons_zero, List.set_cons_succ, i64_w, i32_w]
           rfl
          refine take_ (i := 10) (N := some 23) (v := ?_) (a' := ?_) #[true, true, true, true, true, true, true, true, true, true, true, false, false] rfl rfl (take_ofW HT_.out HW_.out (by kernel_rfl)) (fun _ _ _ h => h) (Or.inl ⟨by rfl, ?_⟩) hHeld ?_ ?_
          rotate_left
          ·rintro w' ⟨s0, s1, s2⟩
           go_simp
           with_reducible rfl
          rotate_left
          ·simp only [Act.put, List.setIfInBounds_toArray, List.set_cons_zero, List.set_cons_succ, i64_w, i32_w]
           rfl
          refine pure_ (i := 11) (N := some 24) (v := ?_) (a' := ?_) #[true, true, true, true, true, true, true, true, true, true, true, true, false] rfl rfl (any_of HT_.out (by kernel_rfl)) (fun _ _ _ h => h) (Or.inl ⟨by rfl, ?_⟩) ?_ ?_
          rotate_left
          ·intro w'
           go_simp
           with_reducible rfl
          rotate_left
          ·simp only [Act.put, List.setIfInBounds_toArray, List.set_cons_zero, List.set_cons_succ, i64_w, i32_w]
           rfl
          refine pure_ (i := 12) (N := some 25) (v := ?_) (a' := ?_) #[true, true, true, true, true, true, true, true, true, true, true, true, true] rfl rfl (any_of HT_.out (by kernel_rfl)) (fun _ _ _ h => h) (Or.inl ⟨by rfl, ?_⟩) ?_ ?_
          rotate_left
          ·intro w'
           go_simp
           with_reducible rfl
          rotate_left
          ·simp only [Act.put, List.setIfInBounds_toArray, List.set_cons_zero, List.set_cons_succ, i64_w, i32_w]
           rfl
          refine done_ (done_of HT_.out (by kernel_rfl)) ?_
          try go_wp2
          go_roundg k1
          case measure => have := HK1.out; omega
          case rel => exact ⟨(wrap64 (x8_1 + 1)), (by first | rfl | (simp; done) | (simp [*]; done)), H', ⟨by have := HK1.out; omega⟩, ⟨by (with_reducible repeat (first | refine blk_drewN ?_ _ | refine blk_drew ?_ | refine blk_alloc ?_ _)); exact BK679.out⟩, ⟨by repeat (first | (with_reducible first | exact HB.out | apply below_alloc | apply pw_below_drewN | apply below_drew1 | refine below_set ?_ GE679.out) | exact HB.out)⟩⟩
         ·replace c14 := Bool.eq_false_iff.mpr c14
          subst c14
          have H1 : (some false) = some r := by rw [if_neg (show ¬ (false = true) by decide)] at H; exact H
          clear H
          have H := H1
          clear H1
          obtain rfl := Option.some.inj H
          have p680 : 0 ≤ (x8_1 : Int) := of_decide_eq_true (by first | (with_reducible assumption) | assumption)
          have q680 : x8_1 < (l0_1.length : Int) := of_decide_eq_true (by first | (with_reducible assumption) | assumption)
          obtain ⟨ad680, e680, hx680_0⟩ := Kd.at_bool HR0_1.out x8_1 p680 q680
          (try rw [← Nbq7.out] at hx680_0)
          (try rw [← Nbq13.out] at hx680_0)
          cases e680
          replace hx680_0 := (HB.out.cell (World.block_lt_of_cell? w _ hx680_0)).trans hx680_0
          replace p680 := eq_true p680
          replace q680 := eq_true q680
          try go_wp2
          have n0_ := Aside0.mk (blk_drew BK679.out)
          have n1_ := Aside0.mk (below_drew1 HB.out)
          clear BK679
          clear HB
          have BK679 := n0_
          have HB := n1_
          clear n0_ n1_
          have p682 : 0 ≤ ((Go.bits .andNot .i64 t681 x8_1) : Int) := of_decide_eq_true (by first | (with_reducible assumption) | assumption)
          have q682 : (Go.bits .andNot .i64 t681 x8_1) < (l0_1.length : Int) := of_decide_eq_true (by first | (with_reducible assumption) | assumption)
          obtain ⟨ad682, e682, hx682_0⟩ := Kd.at_bool HR0_1.out (Go.bits .andNot .i64 t681 x8_1) p682 q682
          have hw682_0 := hx682_0
          (try rw [← Nbq7.out] at hx682_0)
          (try rw [← Nbq7.out] at hw682_0)
          (try rw [← Nbq13.out] at hx682_0)
          (try rw [← Nbq13.out] at hw682_0)
          obtain rfl : ad680 = ad682 := (by injection e682)
          replace hx682_0 := (HB.out.cell (World.block_lt_of_cell? w _ hx682_0)).trans hx682_0
          replace p682 := eq_true p682
          replace q682 := eq_true q682
          refine start_ (n := 13) (S := fun w' => w'.cell? ⟨gb679, 0, none⟩ = some (.int .i64 a0_0) ∧ w'.cell? ⟨gb679, 1, none⟩ = some (.slice (some ad680) l0_1.length c0_1) ∧ w'.cell? (ad680.add ((Go.bits .andNot .i64 t681 x8_1)).toNat) = some (.bool false)) (ds := []) #[false, false, false, false, false, false, false, false, false, false, false, false, false] (by kernel_rfl) rfl rfl ⟨(blk_cell BK679.out 0).trans rfl, (blk_cell BK679.out 1).trans rfl, ((HB.out.cell (World.block_lt_of_cell? w _ hw682_0)).trans hw682_0)⟩ (fun hHeld => ?_); refine with_tabW impl_votes_isStrong.tab4 impl_votes_isStrong.bits4 (fun HT_ HW_ => ?_)
          generalize wr.drew = w17 at BK679 HB hx682_0 hHeld ⊢
          refine pure_ (i := 0) (N := some 13) (v := ?_) (a' := ?_) #[true, false, false, false, false, false, false, false, false, false, false, false, false] rfl rfl (any_of HT_.out (by kernel_rfl)) (fun _ _ _ h => h) (Or.inl ⟨by rfl, ?_⟩) ?_ ?_
          rotate_left
          ·intro w'
           go_simp
           with_reducible rfl
          rotate_left
          ·simp only [Act.put, List.setIfInBounds_toArray, List.set_cons_zero, List.set_cons_succ, i64_w, i32_w]
           rfl
          refine pure_ (i := 1) (N := some 14) (v := ?_) (a' := ?_) #[true, true, false, false, false, false, false, false, false, false, false, false, false] rfl rfl (any_of HT_.out (by kernel_rfl)) (fun _ _ _ h => h) (Or.inl ⟨by rfl, ?_⟩) ?_ ?_
          rotate_left
          ·intro w'
           go_simp
           with_reducible rfl
          rotate_left
          ·simp only [Act.put, List.setIfInBounds_toArray, List.set_cons_zero, List.set_cons_succ, i64_w, i32_w]
           rfl
          refine pure_ (i := 2) (N := some 15) (v := ?_) (a' := ?_) #[true, true, true, false, false, false, false, false, false, false, false, false, false] rfl rfl (any_of HT_.out (by kernel_rfl)) (fun _ _ _ h => h) (Or.inl ⟨by rfl, ?_⟩) ?_ ?_
          rotate_left
          ·intro w'
           go_simp
           with_reducible rfl
          rotate_left
          ·simp only [Act.put, List.setIfInBounds_toArray, List.set_cons_zero, List.set_cons_succ, i64_w, i32_w]
           rfl
          refine pure_ (i := 3) (N := some 16) (v := ?_) (a' := ?_) #[true, true, true, true, false, false, false, false, false, false, false, false, false] rfl rfl (any_of HT_.out (by kernel_rfl)) (fun _ _ _ h => h) (Or.inl ⟨by rfl, ?_⟩) ?_ ?_
          rotate_left
          ·intro w'
           go_simp
           with_reducible rfl
          rotate_left
          ·simp only [Act.put, List.setIfInBounds_toArray, List.set_cons_zero, List.set_cons_succ, i64_w, i32_w]
           rfl
          refine pure_ (i := 7) (N := some 20) (v := ?_) (a' := ?_) #[true, true, true, true, false, false, false, true, false, false, false, false, false] rfl rfl (any_of HT_.out (by kernel_rfl)) (fun _ _ _ h => h) (Or.inl ⟨by rfl, ?_⟩) ?_ ?_
          rotate_left
          ·intro w'
           go_simp
           with_reducible rfl
          rotate_left
          ·simp only [Act.put, List.setIfInBounds_toArray, List.set_cons_zero, List.set_cons_succ, i64_w, i32_w]
           rfl
          refine take_ (i := 4) (N := some 17) (v := ?_) (a' := ?_) #[true, true, true, true, true, false, false, true, false, false, false, false, false] rfl rfl (take_ofW HT_.out HW_.out (by kernel_rfl)) (fun _ _ _ h => h) (Or.inl ⟨by rfl, ?_⟩) hHeld ?_ ?_
          rotate_left
          ·rintro w' ⟨s0, s1, s2⟩
           go_simp
           with_reducible rfl
          rotate_left
          ·simp only [Act.put, List.setIfInBounds_toArray, List.set_cons_zero, List.set_cons_succ, i64_w, i32_w]
           rfl
          refine take_ (i := 5) (N := some 18) (v := ?_) (a' := ?_) #[true, true, true, true, true, true, false, true, false, false, false, false, false] rfl rfl (take_ofW HT_.out HW_.out (by kernel_rfl)) (fun _ _ _ h => h) (Or.inl ⟨by rfl, ?_⟩) hHeld ?_ ?_
          rotate_left
          ·rintro w' ⟨s0, s1, s2⟩
           go_simp
           with_reducible rfl
          rotate_left
          ·simp only [Act.put, List.setIfInBounds_toArray, List.set_cons_zero, List.set_cons_succ, i64_w, i32_w]
           rfl
          refine one_ (i := 6) (N := some 19) #[true, true, true, true, true, true, true, true, false, false, false, false, false] rfl rfl (one_of HT_.out (by kernel_rfl)) (by decide) (fun K hK => ?_)
          refine goes_ Tryz.func119 (by kernel_rfl) rfl #[.agg #[.int .i64 a0_0, .slice (some ad680) l0_1.length c0_1]] (by rfl) rfl rfl (by (try simp only [List.map_toArray, List.map_cons, List.map_nil]); first | done | rfl | (simp only [List.length_drop, List.length_take]; rfl)) ?_
          with_reducible refine (impl_votes_all.calls a0_0 _ _ l0_1 t681 _ ?side1 ?side2 A10.out).mono ?_
          (case side1 => repeat (first | exact (Kd.C_below HR0_1.out HB.out) | (with_reducible refine Kd.C_alloc ?_ _) | (with_reducible refine Kd.C_drewN ?_ _) | (with_reducible refine Kd.C_drew ?_)))
          (case side2 => exact HC0_1.out)
          rintro e w18 ⟨rfl, hb⟩
          refine ⟨_, rfl, ?_⟩
          have n0_ := Aside0.mk (blk_below (g := gb679) (o := .cells #[.int .i64 a0_0, .slice (some ad680) l0_1.length c0_1] 68 (0, 0)) (by (with_reducible repeat (first | refine blk_drewN ?_ _ | refine blk_drew ?_ | refine blk_alloc ?_ _)); exact BK679.out) hb)
          have n1_ := Aside0.mk (below_step (by repeat (first | (with_reducible first | exact HB.out | apply below_alloc | apply pw_below_drewN | apply below_drew1 | refine below_set ?_ GE679.out) | exact HB.out)) hb)
          clear BK679
          clear HB
          have BK679 := n0_
          have HB := n1_
          clear n0_ n1_
          (try clear hb)
          (try clear hb2)
          (try clear hk)
          (try clear hi)
          refine hK.out _ _ ⟨(blk_cell BK679.out 0).trans rfl, (blk_cell BK679.out 1).trans rfl, ((HB.out.cell (World.block_lt_of_cell? w _ hw682_0)).trans hw682_0)⟩ (fun hHeld => ?_)
          clear hK K
          refine norm_ (a' := ?_) ?_ ?_
          rotate_left
          ·show Act.put _ (some 19) _ = _
           simp only [Act.put, List.setIfInBounds_toArray, List.set_cons_zero, List.set_cons_succ, i64_w, i32_w]
           rfl
          refine pure_ (i := 8) (N := some 21) (v := ?_) (a' := ?_) #[true, true, true, true, true, true, true, true, true, false, false, false, false] rfl rfl (any_of HT_.out (by kernel_rfl)) (fun _ _ _ h => h) (Or.inl ⟨by rfl, ?_⟩) ?_ ?_
          rotate_left
          ·intro w'
           go_simp
           with_reducible rfl
          rotate_left
          ·simp only [Act.put, List.setIfInBounds_toArray, List.set_cons_zero, List.set_cons_succ, i64_w, i32_w]
           rfl
          refine pure_ (i := 9) (N := some 22) (v := ?_) (a' := ?_) #[true, true, true, true, true, true, true, true, true, true, false, false, false] rfl rfl (any_of HT_.out (by kernel_rfl)) (fun _ _ _ h => h) (Or.inl ⟨by rfl, ?_⟩) ?_ ?_
          rotate_left
          ·intro w'
           go_simp
           with_reducible rfl
          rotate_left
          ·simp only [Act.put, List.setIfInBounds_toArray, List.set_cons_zero, List.set_cons_succ, i64_w, i32_w]
           rfl
          refine take_ (i := 10) (N := some 23) (v := ?_) (a' := ?_) #[true, true, true, true, true, true, true, true, true, true, true, false, false] rfl rfl (take_ofW HT_.out HW_.out (by kernel_rfl)) (fun _ _ _ h => h) (Or.inl ⟨by rfl, ?_⟩) hHeld ?_ ?_
          rotate_left
          ·rintro w' ⟨s0, s1, s2⟩
           go_simp
           with_reducible rfl
          rotate_left
          ·simp only [Act.put, List.setIfInBounds_toArray, List.set_cons_zero, List.set_cons_succ, i64_w, i32_w]
           rfl
          refine pure_ (i := 11) (N := some 24) (v := ?_) (a' := ?_) #[true, true, true, true, true, true, true, true, true, true, true, true, false] rfl rfl (any_of HT_.out (by kernel_rfl)) (fun _ _ _ h => h) (Or.inl ⟨by rfl, ?_⟩) ?_ ?_
          rotate_left
          ·intro w'
           go_simp
           with_reducible rfl
          rotate_left
          ·simp only [Act.put, List.setIfInBounds_toArray, List.set_cons_zero, List.set_cons_succ, i64_w, i32_w]
           rfl
          refine pure_ (i := 12) (N := some 25) (v := ?_) (a' := ?_) #[true, true, true, true, true, true, true, true, true, true, true, true, true] rfl rfl (any_of HT_.out (by kernel_rfl)) (fun _ _ _ h => h) (Or.inl ⟨by rfl, ?_⟩) ?_ ?_
          rotate_left
          ·intro w'
           go_simp
           with_reducible rfl
          rotate_left
          ·simp only [Act.put, List.setIfInBounds_toArray, List.set_cons_zero, List.set_cons_succ, i64_w, i32_w]
           rfl
          refine done_ (done_of HT_.out (by kernel_rfl)) ?_
          try go_wp2
          go_ret
          exact ⟨by first | rfl | (simp [errW_none, errW_some] <;> rfl) | (simp [*, errW_none, errW_some] <;> rfl), by repeat (first | (with_reducible first | exact HB.out | apply below_alloc | apply pw_below_drewN | apply below_drew1 | refine below_set ?_ GE679.out) | exact HB.out)⟩
        ·rw [if_neg c12] at H
         exact absurd H (by simp)
       ·rw [if_neg c11] at H
        exact absurd H (by simp)
     ·rw [if_neg c6] at H
      exact absurd H (by simp)
    ·rw [if_neg c5] at H
     exact absurd H (by simp)
   ·rw [if_neg c4] at H
    have c4b0 : decide (x8_1 < (l0_1.length : Int)) = false := decide_eq_false c4
    clear c4
    obtain rfl := Option.some.inj H
    go_wp2
    go_ret
    exact ⟨by first | rfl | (simp [errW_none, errW_some] <;> rfl) | (simp [*, errW_none, errW_some] <;> rfl), by repeat (first | (with_reducible first | exact HB.out | apply below_alloc | apply pw_below_drewN | apply below_drew1 | refine below_set ?_ GE679.out) | exact HB.out)⟩
end Go.Proofs.YtnncjnjfdhbddaaGreat.Z
namespace Go.Proofs.YtnncjnjfdhbddaaGreat.Z
open Go.RowKit Go.Proofs.YtnncjnjfdhbddaaGreatW.PrintWords Go.Proofs.YtnncjnjfdhbddaaGreatW.PrintLast Go.Proofs.YtnncjnjfdhbddaaGreatW.PrintMore
attribute [local go_sem] max2_int min2_int max_two min_two max_three min_three max_four min_four
set_option linter.unusedVariables false
set_option linter.unusedSimpArgs false
theorem wrap64_nat (k : Nat) (h : k < 2 ^ 62) : wrap64 (k : Int) = (k : Int) := by rw [← i64_w]; exact wraps_i64 _ (by omega) (by omega)
theorem wrap64_nat1 (k : Nat) (h : k < 2 ^ 62) : wrap64 ((k : Int) + 1) = ((k + 1 : Nat) : Int) := by rw [← i64_w]; exact wraps_i64 _ (by omega) (by omega)
def countW (wins : List Bool) : Nat := wins.countP id
theorem countWins_l (wins : List Bool) (hl : wins.length ≤ 512) : ∀ (d j c : Nat), j + d = wins.length → c ≤ j → impl_votes_countWins.l0 (d + 1) (c : Int) wins (wins.length : Int) (j : Int) = some (((c + (wins.drop j).countP id : Nat)) : Int)
 | 0, j, c, h, hc => by
  rw [impl_votes_countWins.l0, if_neg (by omega), List.drop_eq_nil_of_le (by omega)]
  simp
 | d + 1, j, c, h, hc => by
  have hj : j < wins.length := by omega
  have e : wins.drop j = wins.getD j false :: wins.drop (j + 1) := by rw [List.drop_eq_getElem_cons hj]; simp [List.getD_eq_getElem?_getD, hj]
  have hrd : rdOf false wins (j : Int) = wins.getD j false := by simp [rdOf]
  rw [impl_votes_countWins.l0, if_pos (by omega), if_pos (by omega), if_pos (by omega), hrd, wrap64_nat1 j (by omega), wrap64_nat1 c (by omega), e]
  cases hb : wins.getD j false with
  | true => rw [if_pos rfl, countWins_l wins hl d (j + 1) (c + 1) (by omega) (by omega)]; simp; omega
  | false => rw [if_neg (by simp), countWins_l wins hl d (j + 1) c (by omega) (by omega)]; simp
theorem countWins_f (n : Int) (wins : List Bool) (hl : wins.length ≤ 512) : impl_votes_countWins.f (wins.length + 1) n wins = some ((countW wins : Nat) : Int) := by
 have := countWins_l wins hl wins.length 0 0 (by omega) (by omega)
 simpa [impl_votes_countWins.f, countW] using this
theorem all_f (n : Nat) (hn : n ≤ 4) (wins : List Bool) : impl_votes_all.f (n : Int) wins = some ((2 ^ n - 1 : Nat) : Int) := by
 have : n = 0 ∨ n = 1 ∨ n = 2 ∨ n = 3 ∨ n = 4 := by omega
 rcases this with h | h | h | h | h <;> subst h <;> (simp only [impl_votes_all.f]; decide +kernel)
theorem anti4 : ∀ n, n ≤ 4 → ∀ m, m < 2 ^ n → (2 ^ n - 1) &&& (18446744073709551615 - m) = 2 ^ n - 1 - m := by decide +kernel
theorem anti_f (n : Nat) (hn : n ≤ 4) (m : Nat) (hm : m < 2 ^ n) : Go.bits .andNot .i64 ((2 ^ n - 1 : Nat) : Int) (m : Int) = ((2 ^ n - 1 - m : Nat) : Int) := by
 have h16 : 2 ^ n ≤ 16 := Nat.le_trans (Nat.pow_le_pow_right (by decide) hn) (by decide)
 rw [andNot_nat _ _ (by omega) (by omega), anti4 n hn m hm]
def bothB (b : Bool) (n : Nat) (wins : List Bool) (m : Nat) : Bool := (wins.getD m false == b) && (wins.getD (2 ^ n - 1 - m) false == b)
def properB (n : Nat) (wins : List Bool) : Bool := (List.range wins.length).all fun m => !(bothB true n wins m)
def strongB (n : Nat) (wins : List Bool) : Bool := (List.range wins.length).all fun m => !(bothB false n wins m)
theorem range_all_step (p : Nat → Bool) (N j : Nat) (hj : j < N) : ((List.range N).drop j).all p = (p j && ((List.range N).drop (j + 1)).all p) := by
 rw [List.drop_eq_getElem_cons (by simpa using hj)]
 simp
theorem proper_l (n : Nat) (hn : n ≤ 4) (wins : List Bool) (hw : wins.length = 2 ^ n) : ∀ (d j : Nat), j + d = wins.length → impl_votes_isProper.l0 (d + 1) wins (wins.length : Int) (j : Int) (n : Int) wins = some (((List.range wins.length).drop j).all fun m => !(bothB true n wins m))
 | 0, j, h => by
  rw [impl_votes_isProper.l0, if_neg (by omega), List.drop_eq_nil_of_le (by simp; omega)]
  rfl
 | d + 1, j, h => by
  have hj : j < wins.length := by omega
  have h16 : 2 ^ n ≤ 16 := Nat.le_trans (Nat.pow_le_pow_right (by decide) hn) (by decide)
  have hrd : ∀ m : Nat, rdOf false wins (m : Int) = wins.getD m false := fun m => by simp [rdOf]
  have ih := proper_l n hn wins hw d (j + 1) (by omega)
  rw [impl_votes_isProper.l0, if_pos (by omega), if_pos (by omega), if_pos (by omega), hrd, wrap64_nat1 j (by omega), ih, range_all_step _ _ _ hj, bothB]
  cases wins.getD j false with
  | false => rw [if_neg (by simp)]; simp
  | true =>
   rw [if_pos rfl, all_f n hn, Option.bind_some, anti_f n hn j (by omega), if_pos (by omega), if_pos (by omega), hrd]
   cases wins.getD (2 ^ n - 1 - j) false <;> simp
theorem proper_f (n : Nat) (hn : n ≤ 4) (wins : List Bool) (hw : wins.length = 2 ^ n) : impl_votes_isProper.f (wins.length + 1) (n : Int) wins = some (properB n wins) := by
 have := proper_l n hn wins hw wins.length 0 (by omega)
 simpa [impl_votes_isProper.f, properB] using this
theorem strong_l (n : Nat) (hn : n ≤ 4) (wins : List Bool) (hw : wins.length = 2 ^ n) : ∀ (d j : Nat), j + d = wins.length → impl_votes_isStrong.l0 (d + 1) wins (wins.length : Int) (j : Int) (n : Int) wins = some (((List.range wins.length).drop j).all fun m => !(bothB false n wins m))
 | 0, j, h => by
  rw [impl_votes_isStrong.l0, if_neg (by omega), List.drop_eq_nil_of_le (by simp; omega)]
  rfl
 | d + 1, j, h => by
  have hj : j < wins.length := by omega
  have h16 : 2 ^ n ≤ 16 := Nat.le_trans (Nat.pow_le_pow_right (by decide) hn) (by decide)
  have hrd : ∀ m : Nat, rdOf false wins (m : Int) = wins.getD m false := fun m => by simp [rdOf]
  have ih := strong_l n hn wins hw d (j + 1) (by omega)
  rw [impl_votes_isStrong.l0, if_pos (by omega), if_pos (by omega), if_pos (by omega), hrd, wrap64_nat1 j (by omega), ih, range_all_step _ _ _ hj, bothB]
  cases wins.getD j false with
  | true => rw [if_pos rfl]; simp
  | false =>
   rw [if_neg (by simp), all_f n hn, Option.bind_some, anti_f n hn j (by omega), if_pos (by omega), if_pos (by omega), hrd]
   cases wins.getD (2 ^ n - 1 - j) false <;> simp
theorem strong_f (n : Nat) (hn : n ≤ 4) (wins : List Bool) (hw : wins.length = 2 ^ n) : impl_votes_isStrong.f (wins.length + 1) (n : Int) wins = some (strongB n wins) := by
 have := strong_l n hn wins hw wins.length 0 (by omega)
 simpa [impl_votes_isStrong.f, strongB] using this
def swB (wins : List Bool) (k m : Nat) : Bool := !(m.testBit k) && (!(wins.getD m false) && wins.getD (m + 2 ^ k) false)
theorem fit4 : ∀ n, n ≤ 4 → ∀ k, k < n → ∀ m, m < 2 ^ n → m.testBit k = false → m + 2 ^ k < 2 ^ n := by decide +kernel
theorem isSwing_f (n : Nat) (hn : n ≤ 4) (wins : List Bool) (hw : wins.length = 2 ^ n) (m k : Nat) (hm : m < wins.length) (hk : k < n) : impl_votes_isSwing.f (n : Int) wins (m : Int) (k : Int) = some (swB wins k m) := by
 have h16 : 2 ^ n ≤ 16 := Nat.le_trans (Nat.pow_le_pow_right (by decide) hn) (by decide)
 have hrd : ∀ m : Nat, rdOf false wins (m : Int) = wins.getD m false := fun m => by simp [rdOf]
 rw [impl_votes_isSwing.f, has_eq m k (by omega) (by omega), Option.bind_some, swB]
 cases hb : m.testBit k with
 | true => simp
 | false =>
  rw [if_neg (by simp), if_pos (by omega), if_pos (by omega), hrd]
  cases wins.getD m false with
  | true => simp
  | false =>
   have h1 := fit4 n hn k hk m (by omega) hb
   rw [if_neg (by simp), if_pos (by omega), set_eq m k (by omega) (by omega) hb]
   generalize m + 2 ^ k = z at h1 ⊢
   rw [if_pos (by omega), if_pos (by omega), hrd]
   rfl
def swCount (wins : List Bool) (k : Nat) : Nat := (List.range wins.length).countP (swB wins k)
def swingsL (n : Nat) (wins : List Bool) : List Int := (List.range n).map fun k => ((swCount wins k : Nat) : Int)
theorem range_count_step (p : Nat → Bool) (N j : Nat) (hj : j < N) : ((List.range N).drop j).countP p = (if p j then 1 else 0) + ((List.range N).drop (j + 1)).countP p := by
 rw [List.drop_eq_getElem_cons (by simpa using hj), List.countP_cons]
 simp [Nat.add_comm]
theorem swings_l1 (n : Nat) (hn : n ≤ 4) (wins : List Bool) (hw : wins.length = 2 ^ n) (k : Nat) (hk : k < n) (N0 : Int) : ∀ (d j : Nat) (f : Nat) (l : List Int) (c : Nat), j + d = wins.length → l.length = n → l.getD k 0 = (c : Int) → c ≤ j →
  impl_votes_swings.l1 (f + d + 1) l (k : Int) N0 (k : Int) (wins.length : Int) (j : Int) (n : Int) wins = impl_votes_swings.l0 f (l.set k ((c + ((List.range wins.length).drop j).countP (swB wins k) : Nat) : Int)) N0 ((k + 1 : Nat) : Int) (n : Int) wins
 | 0, j, f, l, c, h, hl, hc, hcj => by
  have e : l.set k ((c + ((List.range wins.length).drop j).countP (swB wins k) : Nat) : Int) = l := by
   rw [List.drop_eq_nil_of_le (by simp; omega)]
   simp only [List.countP_nil, Nat.add_zero, ← hc]
   apply List.ext_getElem (by simp)
   intro i h1 h2
   rw [List.getElem_set]
   split
   ·rename_i hi; subst hi; simp [List.getD_eq_getElem?_getD, h2]
   ·rfl
  rw [e, Nat.add_zero, impl_votes_swings.l1, if_neg (by omega), wrap64_nat1 k (by omega)]
 | d + 1, j, f, l, c, h, hl, hc, hcj => by
  have hj : j < wins.length := by omega
  have h16 : 2 ^ n ≤ 16 := Nat.le_trans (Nat.pow_le_pow_right (by decide) hn) (by decide)
  have hrd : rd l (k : Int) = (c : Int) := by rw [← hc]; simp [rd]
  rw [show f + (d + 1) + 1 = (f + d + 1) + 1 by omega, impl_votes_swings.l1, if_pos (by omega), isSwing_f n hn wins hw j k hj hk, Option.bind_some, range_count_step _ _ _ hj, wrap64_nat1 j (by omega)]
  cases hb : swB wins k j with
  | false =>
   rw [if_neg (by simp), swings_l1 n hn wins hw k hk N0 d (j + 1) f l c (by omega) hl hc (by omega)]
   simp
  | true =>
   rw [if_pos rfl, if_pos (by omega), if_pos (by omega), hrd, Int.toNat_natCast, wrap64_nat1 c (by omega), swings_l1 n hn wins hw k hk N0 d (j + 1) f (l.set k ((c + 1 : Nat) : Int)) (c + 1) (by omega) (by simpa using hl) (by simp [List.getD_eq_getElem?_getD, show k < l.length by omega]) (by omega)]
   simp only [List.set_set, if_true]
   congr 3
   omega
theorem swings_l0 (n : Nat) (hn : n ≤ 4) (wins : List Bool) (hw : wins.length = 2 ^ n) : ∀ (d k : Nat) (l : List Int), k + d = n → l.length = n → (∀ i, i < n → l.getD i 0 = if i < k then ((swCount wins i : Nat) : Int) else 0) →
  ∃ f, impl_votes_swings.l0 f l (n : Int) (k : Int) (n : Int) wins = some (swingsL n wins)
 | 0, k, l, h, hl, hi => by
  refine ⟨1, ?_⟩
  rw [impl_votes_swings.l0, if_neg (by omega)]
  congr 1
  apply List.ext_getElem (by simp [swingsL, hl])
  intro i h1 h2
  have := hi i (by omega)
  rw [if_pos (by omega)] at this
  simpa [swingsL, List.getD_eq_getElem?_getD, h1] using this
 | d + 1, k, l, h, hl, hi => by
  obtain ⟨f, hf⟩ := swings_l0 n hn wins hw d (k + 1) (l.set k ((swCount wins k : Nat) : Int)) (by omega) (by simpa using hl) (by
   intro i hin
   have := hi i hin
   by_cases hik : i = k
   ·subst hik
    rw [if_pos (by omega)]
    simp [List.getD_eq_getElem?_getD, show i < l.length by omega]
   ·have e1 : (l.set k ((swCount wins k : Nat) : Int)).getD i 0 = l.getD i 0 := by
     simp only [List.getD_eq_getElem?_getD]
     rw [List.getElem?_set_ne (Ne.symm hik)]
    rw [e1, this]
    by_cases hlt : i < k
    ·rw [if_pos hlt, if_pos (by omega)]
    ·rw [if_neg hlt, if_neg (by omega)])
  refine ⟨f + wins.length + 1 + 1, ?_⟩
  have hk := hi k (by omega)
  rw [if_neg (by omega)] at hk
  have h1 := swings_l1 n hn wins hw k (by omega) (n : Int) wins.length 0 f l 0 (by omega) hl (by simpa using hk) (by omega)
  rw [impl_votes_swings.l0, if_pos (by omega)]
  rw [show (0 : Int) = ((0 : Nat) : Int) by rfl, h1, ← hf]
  simp [swCount]
theorem swings_f (n : Nat) (hn : n ≤ 4) (wins : List Bool) (hw : wins.length = 2 ^ n) : ∃ f, impl_votes_swings.f f (n : Int) wins = some (swingsL n wins) := by
 obtain ⟨f, hf⟩ := swings_l0 n hn wins hw n 0 (List.replicate n 0) (by omega) (by simp) (fun i hi => by simp [List.getD_eq_getElem?_getD, hi])
 refine ⟨f, ?_⟩
 rw [impl_votes_swings.f, if_pos (by omega), Int.toNat_natCast, if_pos (by omega), Option.bind_some, List.length_replicate]
 exact hf
end Go.Proofs.YtnncjnjfdhbddaaGreat.Z
namespace Go.Proofs.YtnncjnjfdhbddaaGreat.Z
open Go.RowKit Go.Proofs.YtnncjnjfdhbddaaGreatW.PrintWords Go.Proofs.YtnncjnjfdhbddaaGreatW.PrintLast Go.Proofs.YtnncjnjfdhbddaaGreatW.PrintMore
attribute [local go_sem] max2_int min2_int max_two min_two max_three min_three max_four min_four
set_option linter.unusedVariables false
set_option linter.unusedSimpArgs false
mutual
def spec_voBefore.l0 : Nat → List Int → List Int → Int → Option (Bool)
 | 0, _, _, _ => none
 | k + 1, x0, x1, x5 => if x5 < (x0.length : Int) then (spec_voBefore.j1 k x0 x1 x5 (decide (x5 < (x1.length : Int)))) else (spec_voBefore.j1 k x0 x1 x5 false)
def spec_voBefore.j1 : Nat → List Int → List Int → Int → Bool → Option (Bool)
 | 0, _, _, _, _ => none
 | k + 1, x0, x1, x5, x15 => if x15 = true then (if 0 ≤ x5 then (if x5 < (x0.length : Int) then (if x5 < (x1.length : Int) then (if (rd x0 x5) = (rd x1 x5) then (spec_voBefore.l0 k x0 x1 (wrap64 (x5 + 1))) else (some (decide ((rd x0 x5) < (rd x1 x5))))) else (none)) else (none)) else (none)) else (some (decide ((x0.length : Int) < (x1.length : Int))))
end
def spec_voBefore.f (k : Nat) (l0 : List Int) (l1 : List Int) : Option (Bool) := spec_voBefore.l0 k l0 l1 0
theorem spec_voBefore.mono_l : ∀ k, (∀ y0 y1 y2, LeO (spec_voBefore.l0 k y0 y1 y2) (spec_voBefore.l0 (k + 1) y0 y1 y2)) ∧ (∀ y0 y1 y2 y3, LeO (spec_voBefore.j1 k y0 y1 y2 y3) (spec_voBefore.j1 (k + 1) y0 y1 y2 y3))
 | 0 => ⟨fun _ _ _ r h => by simp [spec_voBefore.l0] at h, fun _ _ _ _ r h => by simp [spec_voBefore.j1] at h⟩
 | k + 1 => by
  obtain ⟨ih0, ih1⟩ := spec_voBefore.mono_l k
  refine ⟨?_, ?_⟩
  ·intro y0 y1 y2
   unfold spec_voBefore.l0
   repeat' first
   | (with_reducible exact ih0 _ _ _)
   | (with_reducible exact ih1 _ _ _ _)
   | (with_reducible exact LeO.refl _)
   | (with_reducible exact LeO.none _)
   | (with_reducible refine LeO.ite ?_ ?_)
   | (with_reducible refine LeO.bind ?_ (fun _ => ?_))
   | exact ih0 _ _ _
   | exact ih1 _ _ _ _
   | exact LeO.none _
   | refine LeO.ite ?_ ?_
   | refine LeO.bind ?_ (fun _ => ?_)
  ·intro y0 y1 y2 y3
   unfold spec_voBefore.j1
   repeat' first
   | (with_reducible exact ih0 _ _ _)
   | (with_reducible exact ih1 _ _ _ _)
   | (with_reducible exact LeO.refl _)
   | (with_reducible exact LeO.none _)
   | (with_reducible refine LeO.ite ?_ ?_)
   | (with_reducible refine LeO.bind ?_ (fun _ => ?_))
   | exact ih0 _ _ _
   | exact ih1 _ _ _ _
   | exact LeO.none _
   | refine LeO.ite ?_ ?_
   | refine LeO.bind ?_ (fun _ => ?_)
theorem spec_voBefore.mono : ∀ a0 a1 k, LeO (spec_voBefore.f k a0 a1) (spec_voBefore.f (k + 1) a0 a1) := by
 intro a0 a1 k
 obtain ⟨ih0, ih1⟩ := spec_voBefore.mono_l k
 unfold spec_voBefore.f
 repeat' first
   | (with_reducible exact ih0 _ _ _)
   | (with_reducible exact ih1 _ _ _ _)
   | (with_reducible exact LeO.refl _)
   | (with_reducible exact LeO.none _)
   | (with_reducible refine LeO.ite ?_ ?_)
   | (with_reducible refine LeO.bind ?_ (fun _ => ?_))
   | exact ih0 _ _ _
   | exact ih1 _ _ _ _
   | exact LeO.none _
   | refine LeO.ite ?_ ?_
   | refine LeO.bind ?_ (fun _ => ?_)
set_option maxHeartbeats 8000000 in
set_option maxRecDepth 100000 in
theorem spec_voBefore.calls (k : Nat) (A0 : Option Addr) (c0 : Nat) (l0 : List Int) (A1 : Option Addr) (c1 : Nat) (l1 : List Int) (r : Bool) (w : World) (hr0 : Kd.C (Kd.int .i64) w A0 l0.length l0) (hc0 : l0.length ≤ c0) (hr1 : Kd.C (Kd.int .i64) w A1 l1.length l1) (hc1 : l1.length ≤ c1) (h : spec_voBefore.f k l0 l1 = some r) :
  Calls Tryz.prog 103 #[.slice A0 l0.length c0, .slice A1 l1.length c1] w fun e w' => e = .returned (.bool r) ∧ Drawn0 w w' := by
 have HR0 := Aside0.mk hr0
 have HC0 := Aside0.mk hc0
 clear hr0 hc0
 have HR1 := Aside0.mk hr1
 have HC1 := Aside0.mk hc1
 clear hr1 hc1
 have H : (spec_voBefore.l0 k l0 l1 0) = some r := h
 clear h
 have H' := Aside0.mk H
 clear H
 go_enter Tryz.func103, Tryz.ntmps103
 go_wp2
 repeat (go_quiet (fail); try go_wp2)
 go_loopg [5] k (fun kq v5 w' => ∃ (x5_1 : Int), v5 = .int .i64 x5_1 ∧ Aside0 (spec_voBefore.l0 kq l0 l1 x5_1 = some r) ∧ Aside0 (kq ≤ k) ∧ Drawn0 w w')
 case atStart => exact ⟨(0), (by first | rfl | (simp; done) | (simp [*]; done)), H', ⟨Nat.le_refl _⟩, by repeat (first | exact Drawn0.refl _ | apply Drawn0.step)⟩
 case round =>
  clear H'
  try clear c1
  try clear p2
  obtain ⟨x5_1, rfl, HA, HK1, ⟨m1, rfl⟩⟩ := hrel
  cases gk with
  | zero => exact absurd HA.out (by simp [spec_voBefore.l0])
  | succ k1 =>
   have H := HA.out
   clear HA
   simp only [spec_voBefore.l0] at H
   have HC3 := Aside0.mk H
   clear H
   go_upto_region 2 with (fail)
   repeat (go_quiet (fail); go_upto_region 2 with (fail))
   go_cut [15] (fun v15 wc => ∃ (kq : Nat) (x15_2 : Bool), v15 = .bool x15_2 ∧ Aside0 (spec_voBefore.j1 kq l0 l1 x5_1 x15_2 = some r) ∧ Aside0 (kq ≤ k1) ∧ Drawn0 w wc)
   case first =>
    have H := HC3.out
    clear HC3
    by_cases c4 : x5_1 < (l0.length : Int)
    ·rw [if_pos c4] at H
     have c4b0 : decide (x5_1 < (l0.length : Int)) = true := decide_eq_true c4
     clear c4
     (first | rw [c4b0] | (simp only [i64_w, i32_w]; rw [c4b0]) | skip)
     have H' := Aside0.mk H
     clear H
     go_wp2
     repeat (go_quiet (fail); try go_wp2)
     go_meet
     case rel => exact ⟨_, (decide (x5_1 < (l1.length : Int))), (by first | rfl | (simp; done) | (simp [*]; done)), H', ⟨by have := HK1.out; first | omega | exact Nat.le_refl _⟩, by repeat (first | exact Drawn0.refl _ | apply Drawn0.step)⟩
    ·rw [if_neg c4] at H
     have c4b0 : decide (x5_1 < (l0.length : Int)) = false := decide_eq_false c4
     clear c4
     (first | rw [c4b0] | (simp only [i64_w, i32_w]; rw [c4b0]) | skip)
     have H' := Aside0.mk H
     clear H
     go_wp2
     repeat (go_quiet (fail); try go_wp2)
     go_meet
     case rel => exact ⟨_, (false), (by first | rfl | (simp; done) | (simp [*]; done)), H', ⟨by have := HK1.out; first | omega | exact Nat.le_refl _⟩, by repeat (first | exact Drawn0.refl _ | apply Drawn0.step)⟩
   case rest =>
    clear HC3
    try clear c1
    try clear p2
    try clear c4
    try clear c4b0
    try clear p2
    obtain ⟨kq, x15_2, rfl, HA, HJ2, ⟨mc2, rfl⟩⟩ := hcut
    cases kq with
    | zero => exact absurd HA.out (by simp [spec_voBefore.j1])
    | succ kj2 =>
     have H := HA.out
     clear HA
     simp only [spec_voBefore.j1] at H
     by_cases c5 : x15_2 = true
     ·subst c5
      have H1 : (if 0 ≤ x5_1 then (if x5_1 < (l0.length : Int) then (if x5_1 < (l1.length : Int) then (if (rd l0 x5_1) = (rd l1 x5_1) then (spec_voBefore.l0 kj2 l0 l1 (wrap64 (x5_1 + 1))) else (some (decide ((rd l0 x5_1) < (rd l1 x5_1))))) else (none)) else (none)) else (none)) = some r := by rw [if_pos rfl] at H; exact H
      clear H
      have H := H1
      clear H1
      by_cases c6 : 0 ≤ x5_1
      ·rw [if_pos c6] at H
       have c6b0 : decide (0 ≤ x5_1) = true := decide_eq_true c6
       clear c6
       by_cases c7 : x5_1 < (l0.length : Int)
       ·rw [if_pos c7] at H
        have c7b0 : decide (x5_1 < (l0.length : Int)) = true := decide_eq_true c7
        clear c7
        by_cases c8 : x5_1 < (l1.length : Int)
        ·rw [if_pos c8] at H
         have c8b0 : decide (x5_1 < (l1.length : Int)) = true := decide_eq_true c8
         clear c8
         by_cases c9 : (rd l0 x5_1) = (rd l1 x5_1)
         ·rw [if_pos c9] at H
          have c9b0 : ((rd l0 x5_1) == (rd l1 x5_1)) = true := beq_iff_eq.mpr c9
          have c9b1 : ((rd l0 x5_1) != (rd l1 x5_1)) = false := bne_eq_false_iff_eq.mpr c9
          clear c9
          have H' := Aside0.mk H
          clear H
          have p113 : 0 ≤ (x5_1 : Int) := of_decide_eq_true (by first | (with_reducible assumption) | assumption)
          have q113 : x5_1 < (l0.length : Int) := of_decide_eq_true (by first | (with_reducible assumption) | assumption)
          obtain ⟨ad113, e113, hx113_0⟩ := Kd.at_int HR0.out x5_1 p113 q113
          cases e113
          replace p113 := eq_true p113
          replace q113 := eq_true q113
          have p114 : 0 ≤ (x5_1 : Int) := of_decide_eq_true (by first | (with_reducible assumption) | assumption)
          have q114 : x5_1 < (l1.length : Int) := of_decide_eq_true (by first | (with_reducible assumption) | assumption)
          obtain ⟨ad114, e114, hx114_0⟩ := Kd.at_int HR1.out x5_1 p114 q114
          cases e114
          replace p114 := eq_true p114
          replace q114 := eq_true q114
          go_wp2
          repeat (go_quiet (fail); try go_wp2)
          go_roundg kj2
          case measure => have := HK1.out; have := HJ2.out; omega
          case rel => exact ⟨(wrap64 (x5_1 + 1)), (by first | rfl | (simp; done) | (simp [*]; done)), H', ⟨by have := HK1.out; have := HJ2.out; omega⟩, by repeat (first | exact Drawn0.refl _ | apply Drawn0.step)⟩
         ·rw [if_neg c9] at H
          have c9b0 : ((rd l0 x5_1) == (rd l1 x5_1)) = false := beq_eq_false_iff_ne.mpr c9
          have c9b1 : ((rd l0 x5_1) != (rd l1 x5_1)) = true := bne_iff_ne.mpr c9
          obtain rfl := Option.some.inj H
          have p113 : 0 ≤ (x5_1 : Int) := of_decide_eq_true (by first | (with_reducible assumption) | assumption)
          have q113 : x5_1 < (l0.length : Int) := of_decide_eq_true (by first | (with_reducible assumption) | assumption)
          obtain ⟨ad113, e113, hx113_0⟩ := Kd.at_int HR0.out x5_1 p113 q113
          cases e113
          replace p113 := eq_true p113
          replace q113 := eq_true q113
          have p114 : 0 ≤ (x5_1 : Int) := of_decide_eq_true (by first | (with_reducible assumption) | assumption)
          have q114 : x5_1 < (l1.length : Int) := of_decide_eq_true (by first | (with_reducible assumption) | assumption)
          obtain ⟨ad114, e114, hx114_0⟩ := Kd.at_int HR1.out x5_1 p114 q114
          cases e114
          replace p114 := eq_true p114
          replace q114 := eq_true q114
          have p115 : 0 ≤ (x5_1 : Int) := of_decide_eq_true (by first | (with_reducible assumption) | assumption)
          have q115 : x5_1 < (l0.length : Int) := of_decide_eq_true (by first | (with_reducible assumption) | assumption)
          obtain ⟨ad115, e115, hx115_0⟩ := Kd.at_int HR0.out x5_1 p115 q115
          obtain rfl : ad113 = ad115 := (by injection e115)
          replace p115 := eq_true p115
          replace q115 := eq_true q115
          have p116 : 0 ≤ (x5_1 : Int) := of_decide_eq_true (by first | (with_reducible assumption) | assumption)
          have q116 : x5_1 < (l1.length : Int) := of_decide_eq_true (by first | (with_reducible assumption) | assumption)
          obtain ⟨ad116, e116, hx116_0⟩ := Kd.at_int HR1.out x5_1 p116 q116
          obtain rfl : ad114 = ad116 := (by injection e116)
          replace p116 := eq_true p116
          replace q116 := eq_true q116
          go_wp2
          repeat (go_quiet (fail); try go_wp2)
          go_ret
          exact ⟨by first | rfl | (simp; done) | (simp [*]; done), by repeat (first | exact Drawn0.refl _ | apply Drawn0.step)⟩
        ·rw [if_neg c8] at H
         exact absurd H (by simp)
       ·rw [if_neg c7] at H
        exact absurd H (by simp)
      ·rw [if_neg c6] at H
       exact absurd H (by simp)
     ·replace c5 := Bool.eq_false_iff.mpr c5
      subst c5
      have H1 : (some (decide ((l0.length : Int) < (l1.length : Int)))) = some r := by rw [if_neg (show ¬ (false = true) by decide)] at H; exact H
      clear H
      have H := H1
      clear H1
      obtain rfl := Option.some.inj H
      go_wp2
      repeat (go_quiet (fail); try go_wp2)
      go_ret
      exact ⟨by first | rfl | (simp; done) | (simp [*]; done), by repeat (first | exact Drawn0.refl _ | apply Drawn0.step)⟩
end Go.Proofs.YtnncjnjfdhbddaaGreat.Z
namespace Go.Proofs.YtnncjnjfdhbddaaGreat.Z
open Go.RowKit Go.Proofs.YtnncjnjfdhbddaaGreatW.PrintWords Go.Proofs.YtnncjnjfdhbddaaGreatW.PrintLast Go.Proofs.YtnncjnjfdhbddaaGreatW.PrintMore
attribute [local go_sem] max2_int min2_int max_two min_two max_three min_three max_four min_four
set_option linter.unusedVariables false
set_option linter.unusedSimpArgs false
def befB (a b : List Int) : Bool := decide (cmpL a b < 0)
theorem befB_nil (b : List Int) : befB [] b = decide (0 < b.length) := by cases b <;> simp [befB, cmpL, lexC]
theorem befB_nil2 (x : Int) (a : List Int) : befB (x :: a) [] = false := by simp [befB, cmpL, lexC]
theorem befB_cons (x y : Int) (a b : List Int) : befB (x :: a) (y :: b) = if x = y then befB a b else decide (x < y) := by
 simp only [befB, cmpL, lexC, cmpI]
 by_cases h : x = y
 ·subst h
  simp only [Int.lt_irrefl, if_false, if_true]
  exact decide_eq_decide.2 Iff.rfl
 ·by_cases h2 : x < y
  ·simp [h, h2]
  ·have h3 : y < x := by omega
   have h4 : ¬ x ≤ y := by omega
   simp [h, h2, h3, h4]
theorem drop_cons (l : List Int) (j : Nat) (h : j < l.length) : l.drop j = rd l (j : Int) :: l.drop (j + 1) := by
 rw [List.drop_eq_getElem_cons h]
 simp [rd, List.getD_eq_getElem?_getD, h]
theorem voBefore_l (a b : List Int) (ha : a.length ≤ 1000) : ∀ (d j : Nat), j + d = a.length → spec_voBefore.l0 (2 * d + 2) a b (j : Int) = some (befB (a.drop j) (b.drop j))
 | 0, j, h => by
  rw [spec_voBefore.l0, if_neg (by omega), spec_voBefore.j1, if_neg (by simp), List.drop_eq_nil_of_le (show a.length ≤ j by omega), befB_nil, List.length_drop]
  congr 1
  simp only [decide_eq_decide]
  omega
 | d + 1, j, h => by
  have hj : j < a.length := by omega
  rw [show 2 * (d + 1) + 2 = (2 * d + 2) + 1 + 1 by omega, spec_voBefore.l0, if_pos (by omega), spec_voBefore.j1, drop_cons a j hj]
  by_cases hb : j < b.length
  ·rw [if_pos (by simp; omega), if_pos (by omega), if_pos (by omega), if_pos (by omega), drop_cons b j hb, befB_cons, wrap64_nat1 j (by omega), voBefore_l a b ha d (j + 1) (by omega)]
   by_cases h : rd a (j : Int) = rd b (j : Int)
   ·rw [if_pos h, if_pos h]
   ·rw [if_neg h, if_neg h]
  ·rw [if_neg (by simp; omega), List.drop_eq_nil_of_le (show b.length ≤ j by omega), befB_nil2]
   congr 1
   simp only [decide_eq_false_iff_not]
   omega
theorem voBefore_f (a b : List Int) (ha : a.length ≤ 1000) : spec_voBefore.f (2 * a.length + 2) a b = some (befB a b) := by
 have := voBefore_l a b ha a.length 0 (by omega)
 simpa [spec_voBefore.f] using this
end Go.Proofs.YtnncjnjfdhbddaaGreat.Z
namespace Go.Proofs.YtnncjnjfdhbddaaGreat.Z
open Go.RowKit Go.Proofs.YtnncjnjfdhbddaaGreatW.PrintWords Go.Proofs.YtnncjnjfdhbddaaGreatW.PrintLast Go.Proofs.YtnncjnjfdhbddaaGreatW.PrintMore
attribute [local go_sem] max2_int min2_int max_two min_two max_three min_three max_four min_four
set_option linter.unusedVariables false
set_option linter.unusedSimpArgs false
theorem row_at {W : World} {base n c : Nat} {A : Option Addr} {xs : List (List Int)} (h : Kd.R (Kd.slice 3 (Kd.int .i64)) 36 W base (fun _ => True) (.slice A n c) xs) (k : Nat) (hk : k < n) :
  ∃ ad A1 c1, A = some ad ∧ W.cell? (ad.add k) = some (.slice A1 (xs.getD k []).length c1) ∧ (xs.getD k []).length ≤ c1 ∧ Kd.C (Kd.int .i64) W A1 (xs.getD k []).length (xs.getD k []) ∧ (Kd.slice 3 (Kd.int .i64)).M W base (fun k => k < W.heap.size) (xs.getD k []) [.slice A1 (xs.getD k []).length c1] := by
 obtain ⟨hn, _⟩ := Kd.R_reads' h
 obtain ⟨A', c', he, _, hr⟩ := R_rowsM h
 injection he with e1 _ _
 subst e1
 obtain ⟨ad, cs, e, hs, hM, hc⟩ := hr.get_ ([] : List Int) (k : Int) (by omega) (by omega)
 rw [Int.toNat_natCast] at hM hc
 obtain ⟨v, rfl, hR⟩ := hM
 obtain ⟨A1, c1, rfl, hl, hC⟩ := Kd.R_reads hR
 have h1 := hc 0 _ rfl
 have h2 : ad.add (k * (Kd.slice 3 (Kd.int .i64)).sz + 0) = ad.add k := congrArg ad.add (Nat.mul_one k)
 rw [h2] at h1
 exact ⟨ad, A1, c1, e, h1, hl, hC, ⟨_, rfl, hR⟩⟩
theorem R_made (d : Kd (List Int)) (e base : Nat) (W : World) (hb : base ≤ W.heap.size) : d.R e (W.alloc (.cells #[] e)) base (fun _ => True) (.slice (some ⟨W.heap.size, 0, none⟩) 0 0) [] :=
 ⟨fun _ _ => trivial, [], ⟨by simp, .inr ⟨W.heap.size, 0, #[], rfl, hb, heap1_0 _ _, Nat.le_refl _, by simp [maxLen], by simp, by simp⟩⟩, Reps.none _ _⟩
set_option maxRecDepth 100000 in
set_option maxHeartbeats 8000000 in
theorem voSorted_any (base : Nat) (xs : List (List Int)) (hx : xs.length ≤ 1000) (hx2 : ∀ x ∈ xs, x.length ≤ 1000) (A0 : Option Addr) (c0 : Nat) (w : World) (hb0 : base ≤ w.heap.size)
  (hX : Kd.R (Kd.slice 3 (Kd.int .i64)) 36 w base (fun _ => True) (.slice A0 xs.length c0) xs) :
  Calls Tryz.prog 97 #[.slice A0 xs.length c0] w fun e w' => ∃ v, e = .returned v ∧ Kd.R (Kd.slice 3 (Kd.int .i64)) 36 w' base (fun _ => True) v (srtP befB xs) ∧ Below w.heap.size w w' := by
 have HX := Aside0.mk hX
 have HX2 := Aside0.mk hx2
 have HL := Aside0.mk (fun k => srtP_len befB (xs.take k))
 obtain ⟨N, hN⟩ : ∃ N, N = xs.length := ⟨_, rfl⟩
 rw [← hN] at HX hx
 have HN := Aside0.mk hN
 rw [← hN]
 clear hX hx2 hN
 go_enter Tryz.func97, Tryz.ntmps97
 go_wp2
 go_loopg [3, 5, 6, 7, 10] N (fun gg s3 _ _ _ s10 wr => ∃ kk : Nat, kk ≤ N ∧ N - kk ≤ gg ∧ s10 = .int .i64 kk ∧ ∃ Ao co, s3 = .slice Ao kk co ∧ Aside0 (Below w.heap.size w wr) ∧ Aside0 (∀ k, s3.ownBlock = some k → w.heap.size ≤ k) ∧ Aside0 (Kd.R (Kd.slice 3 (Kd.int .i64)) 36 wr base (fun _ => True) s3 (srtP befB (xs.take kk))))
 case atStart => exact ⟨0, Nat.zero_le _, by omega, rfl, none, 0, rfl, ⟨Below.refl _ _⟩, ⟨by simp [Value.ownBlock]⟩, ⟨Kd.R_nil _ _ _ _ _⟩⟩
 case round =>
  obtain ⟨kk, hkk, hg, rfl, Ao, co, rfl, BW, NE, HO⟩ := hrel
  by_cases hlt : kk < N
  ·have hltz : (kk : Int) < (N : Int) := by omega
   have h0z : (0 : Int) ≤ (kk : Int) := by omega
   obtain ⟨ad, A1, c1, e, hcell, hl1, hC1, hM1⟩ := row_at (Kd.R_below HX.out BW.out) kk hlt
   have hxm : xs.getD kk [] ∈ xs := by have := HN.out; simp [List.getD_eq_getElem?_getD, show kk < xs.length by omega]
   have hx1 := HX2.out _ hxm
   have hst := srtP_take befB xs [] kk (by have := HN.out; omega)
   generalize xs.getD kk [] = x at *
   have hlo : (srtP befB (xs.take kk)).length = kk := by rw [HL.out, List.length_take]; have := HN.out; omega
   have hom : ∀ y ∈ srtP befB (xs.take kk), y.length ≤ 1000 := by
    intro y hy
    exact HX2.out y (List.mem_of_mem_take ((srtP_perm befB _).mem_iff.1 hy))
   have HST := Aside0.mk hst
   have HOM := Aside0.mk hom
   have HLO := Aside0.mk hlo
   have HC1 := Aside0.mk hC1
   have HM1 := Aside0.mk hM1
   have HIN := Aside0.mk hcell
   subst e
   clear hst hom hlo hC1 hM1 hxm
   generalize srtP befB (xs.take kk) = os at *
   go_wp2
   go_loopg [6] kk (fun gg s6 wq => ∃ k : Nat, k ≤ kk ∧ kk - k ≤ gg ∧ s6 = .int .i64 k ∧ Aside0 (Below w.heap.size w wq) ∧ Aside0 (∀ i, i < k → befB (os.getD i []) x = true) ∧ Aside0 (Kd.R (Kd.slice 3 (Kd.int .i64)) 36 wq base (fun _ => True) (.slice Ao kk co) os) ∧ Aside0 (Kd.C (Kd.int .i64) wq A1 x.length x) ∧ Aside0 ((Kd.slice 3 (Kd.int .i64)).M wq base (fun k => k < wq.heap.size) x [.slice A1 x.length c1]))
   case atStart => exact ⟨0, Nat.zero_le _, by omega, rfl, BW, ⟨fun i hi => absurd hi (Nat.not_lt_zero _)⟩, HO, HC1, HM1⟩
   case round =>
    clear BW HO HC1 HM1 HIN
    obtain ⟨k, hk, hg2, rfl, BW, HA, HO, HC1, HM1⟩ := hrel
    have arms : True := trivial
    by_cases hkl : k < kk
    ·have hkz : (k : Int) < (kk : Int) := by omega
     have hkz0 : (0 : Int) ≤ (k : Int) := by omega
     have hkd : decide ((k : Int) < (kk : Int)) = true := decide_eq_true hkz
     obtain ⟨ad2, A2, c2, e2, hcell2, hl2, hC2, _⟩ := row_at HO.out k hkl
     have hy1 := HOM.out (os.getD k []) (by have := HLO.out; simp [List.getD_eq_getElem?_getD, show k < os.length by omega])
     have HVB := Aside0.mk (spec_voBefore.calls _ A2 c2 (os.getD k []) A1 c1 x (befB (os.getD k []) x) wr hC2 hl2 HC1.out hl1 (voBefore_f _ x hy1))
     generalize hyy : os.getD k [] = y at *
     have HYY := Aside0.mk hyy
     cases e2
     clear hC2 hyy
     cases hbf : befB y x with
     | true =>
      rw [hbf] at HVB
      have HBF := Aside0.mk hbf
      clear hbf
      go_wp2_with (go_at_call 103; refine HVB.out.mono ?_; rintro e w5 ⟨rfl, hd⟩; obtain ⟨m, rfl⟩ := hd)
      go_roundg (kk - (k + 1))
      case measure => omega
      case rel =>
       refine ⟨k + 1, by omega, by omega, by go_num, ⟨pw_below_drewN BW.out _⟩, ⟨fun i hi => ?_⟩, ⟨Kd.R_drewN HO.out _⟩, ⟨Kd.C_drewN HC1.out _⟩, HM1⟩
       by_cases hi2 : i = k
       ·subst hi2; rw [HYY.out]; exact HBF.out
       ·exact HA.out i (by omega)
     | false =>
      rw [hbf] at HVB
      have HBF := Aside0.mk hbf
      clear hbf
      obtain ⟨_, _, he3, hkco, hrw⟩ := R_rowsM HO.out
      have HLO' := HLO.out
      injection he3 with e4 e6 e5
      clear e6
      rw [← e4, HLO'] at hrw
      rw [← e5, HLO'] at hkco
      have hkco2 : k ≤ co := by omega
      have HRW := Aside0.mk hrw
      clear hrw e4 e5 HLO'
      go_wp2_with (first | (go_at_call 103; refine HVB.out.mono ?_; rintro e w5 ⟨rfl, hd⟩; obtain ⟨m, rfl⟩ := hd; have HBQ := Aside0.mk (show Below wr.heap.size wr (wr.drewN m) from pw_below_drewN (Below.refl _ _) _)) | ((with_reducible refine gate_builtin (b := .append) (xs := #[.tmp 28, .tmp 31]) rfl ?_); at_builtin; go_must (refine Kd.R_append_rows (Kd.slice 3 (Kd.int .i64)) (Rr := (Kd.slice 3 (Kd.int .i64)).M wr base (fun k => k < wr.heap.size)) (w0 := wr) base rfl (.tmp 28) (.tmp 31) 22 36 (.slice none 0 0) 24 rfl Tryz.underlying22 infoS rfl (by decide) (by decide) _ [] (os.take k) _ _ _ (fun _ => True) (fun j => j < wr.heap.size) rfl rfl ?aO ?aR ?aK ?aN (fun _ _ => trivial) ?aB ?aS ?aL ?_; (case aO => exact R_made _ _ _ _ (Nat.le_trans hb0 BW.out.size)); (case aR => exact (rows_take (HLO.out.symm ▸ HRW.out) (by have := HLO.out; omega)).imp_ (below_alloc HBQ.out _) (fun _ _ h => h)); (case aK => exact fun _ _ h => (Kd.slice 3 (Kd.int .i64)).M_move (fun j hj => (below_alloc HBQ.out _).block j hj) h); (case aN => exact fun j (hj : j < wr.heap.size) => ⟨trivial, fun e => Nat.lt_irrefl _ ((show j = wr.heap.size from Option.some.inj e) ▸ hj)⟩); (case aB => exact (below_alloc HBQ.out _).mono (Nat.le_trans hb0 BW.out.size)); (case aS => exact Nat.le_trans (Nat.le_trans hb0 BW.out.size) (below_alloc HBQ.out _).size); (case aL => first | (simp; done) | (simp; omega)); intro v7 w7 ho7 hb7 hg7 hat7; have hne7 := own_grow (N := wr.heap.size) hat7 (fun j e => Nat.le_of_eq (show wr.heap.size = j from Option.some.inj e)) (below_alloc HBQ.out _).size; have HB7 := Aside0.mk ((below_alloc HBQ.out _).grown hg7 (below_alloc HBQ.out _).size (fun j e => Nat.le_of_eq (show wr.heap.size = j from Option.some.inj e))); have HO7 := Aside0.mk ho7; have HNE7 := Aside0.mk hne7; clear ho7 hb7 hg7 hat7 hne7)) | ((with_reducible refine gate_builtin (b := .append) (xs := #[.tmp 32, .tmp 34]) rfl ?_); at_builtin; go_must (refine Kd.R_append (Kd.slice 3 (Kd.int .i64)) (w0 := wr) base rfl (.tmp 32) (.tmp 34) 22 36 (.slice none 0 0) 24 rfl Tryz.underlying22 infoS rfl (by decide) (by decide) v7 ([] ++ os.take k) x [.slice A1 x.length c1] (fun _ => True) (fun j => j < wr.heap.size) rfl rfl ?bP ?bN (fun _ _ => trivial) HO7.out ?bB ?bS ?bL ?_; (case bP => exact (Kd.slice 3 (Kd.int .i64)).M_move (fun j hj => HB7.out.block j hj) HM1.out); (case bN => exact fun j (hj : j < wr.heap.size) => ⟨trivial, fun e => by have := HNE7.out j e.symm; omega⟩); (case bB => exact HB7.out.mono (Nat.le_trans hb0 BW.out.size)); (case bS => exact Nat.le_trans (Nat.le_trans hb0 BW.out.size) HB7.out.size); (case bL => first | (simp; done) | (simp; omega)); intro v8 w8 ho8 hb8 hg8 hat8; have hne8 := own_grow (N := wr.heap.size) hat8 HNE7.out HB7.out.size; have HB8 := Aside0.mk (HB7.out.grown hg8 HB7.out.size HNE7.out); have HO8 := Aside0.mk ho8; have HNE8 := Aside0.mk hne8; clear ho8 hb8 hg8 hat8 hne8)) | ((with_reducible refine gate_builtin (b := .append) (xs := #[.tmp 36, .tmp 39]) rfl ?_); at_builtin; go_must (refine Kd.R_append_rows (Kd.slice 3 (Kd.int .i64)) (Rr := (Kd.slice 3 (Kd.int .i64)).M wr base (fun k => k < wr.heap.size)) (w0 := wr) base rfl (.tmp 36) (.tmp 39) 22 36 (.slice none 0 0) 24 rfl Tryz.underlying22 infoS rfl (by decide) (by decide) v8 ([] ++ os.take k ++ [x]) (os.drop k) _ _ _ (fun _ => True) (fun j => j < wr.heap.size) rfl rfl HO8.out ?cR ?cK ?cN (fun _ _ => trivial) ?cB ?cS ?cL ?_; (case cR => have hl := HLO.out; have h := rows_drop (m := k) (c := co) (hl.symm ▸ HRW.out) (by omega) (by omega); rw [if_neg (by omega), hl] at h; have h9 := h.imp_ HB8.out (fun _ _ h => h); rw [show (Kd.slice 3 (Kd.int .i64)).sz = 1 from rfl, Nat.mul_one] at h9; exact h9); (case cK => exact fun _ _ h => (Kd.slice 3 (Kd.int .i64)).M_move (fun j hj => HB8.out.block j hj) h); (case cN => exact fun j (hj : j < wr.heap.size) => ⟨trivial, fun e => by have := HNE8.out j e.symm; omega⟩); (case cB => exact HB8.out.mono (Nat.le_trans hb0 BW.out.size)); (case cS => exact Nat.le_trans (Nat.le_trans hb0 BW.out.size) HB8.out.size); (case cL => first | (simp; done) | (simp; omega)); intro v9 w9 ho9 hb9 hg9 hat9; have hne9 := own_grow (N := wr.heap.size) hat9 HNE8.out HB8.out.size; have HB9 := Aside0.mk (HB8.out.grown hg9 HB8.out.size HNE8.out); have HO9 := Aside0.mk ho9; have HNE9 := Aside0.mk hne9; clear ho9 hb9 hg9 hat9 hne9)))
      have hins := insP_at befB os x [] k (by have := HLO.out; omega) HA.out (.inr (by rw [HYY.out]; exact HBF.out))
      have ho9 := HO9.out
      rw [List.nil_append, hins, ← HST.out] at ho9
      obtain ⟨A9, c9, rfl⟩ := Kd.R_slice ho9
      have hl9 : (srtP befB (xs.take (kk + 1))).length = kk + 1 := by rw [HL.out, List.length_take]; have := HN.out; omega
      rw [hl9] at ho9 ⊢
      have HO10 := Aside0.mk ho9
      clear ho9 hins
      go_roundg (N - (kk + 1))
      case measure => omega
      case rel =>
       exact ⟨kk + 1, by omega, by omega, by go_num, A9, c9, rfl, ⟨Below.trans BW.out (HB9.out.mono BW.out.size)⟩, ⟨fun j hj => Nat.le_trans BW.out.size (HNE9.out j (by rw [hl9]; exact hj))⟩, HO10⟩
    ·obtain rfl : k = kk := by omega
     obtain ⟨_, _, he3, hkco, hrw⟩ := R_rowsM HO.out
     have HLO' := HLO.out
     injection he3 with e4 e6 e5
     clear e6
     rw [← e4, HLO'] at hrw
     rw [← e5, HLO'] at hkco
     have HRW := Aside0.mk hrw
     have hk0 : (0 : Int) ≤ (k : Int) := by omega
     have HBQ := Aside0.mk (Below.refl wr.heap.size wr)
     clear hrw e4 e5 HLO' hkl hk hg2
     cases Ao with
     | none =>
      have h00 : k = 0 ∧ co = 0 := by
       obtain ⟨inner, hown, _⟩ := HO.out.2
       rcases hown.2 with ⟨he, h0⟩ | ⟨g, cap, cur, he, _⟩
       ·injection he with _ e1 e2
        exact ⟨e1, e2⟩
       ·injection he with e1 _ _
        cases e1
      obtain ⟨rfl, rfl⟩ := h00
      go_wp2_with (first | ((with_reducible refine gate_builtin (b := .append) (xs := #[.tmp 28, .tmp 31]) rfl ?_); at_builtin; go_must (refine Kd.R_append_rows (Kd.slice 3 (Kd.int .i64)) (Rr := (Kd.slice 3 (Kd.int .i64)).M wr base (fun k => k < wr.heap.size)) (w0 := wr) base rfl (.tmp 28) (.tmp 31) 22 36 (.slice none 0 0) 24 rfl Tryz.underlying22 infoS rfl (by decide) (by decide) _ [] (os.take 0) _ _ _ (fun _ => True) (fun j => j < wr.heap.size) rfl rfl ?aO ?aR ?aK ?aN (fun _ _ => trivial) ?aB ?aS ?aL ?_; (case aO => exact R_made _ _ _ _ (Nat.le_trans hb0 BW.out.size)); (case aR => exact (rows_take (HLO.out.symm ▸ HRW.out) (Nat.zero_le _)).imp_ (below_alloc HBQ.out _) (fun _ _ h => h)); (case aK => exact fun _ _ h => (Kd.slice 3 (Kd.int .i64)).M_move (fun j hj => (below_alloc HBQ.out _).block j hj) h); (case aN => exact fun j (hj : j < wr.heap.size) => ⟨trivial, fun e => Nat.lt_irrefl _ ((show j = wr.heap.size from Option.some.inj e) ▸ hj)⟩); (case aB => exact (below_alloc HBQ.out _).mono (Nat.le_trans hb0 BW.out.size)); (case aS => exact Nat.le_trans (Nat.le_trans hb0 BW.out.size) (below_alloc HBQ.out _).size); (case aL => first | (simp; done) | (simp; omega)); intro v7 w7 ho7 hb7 hg7 hat7; have hne7 := own_grow (N := wr.heap.size) hat7 (fun j e => Nat.le_of_eq (show wr.heap.size = j from Option.some.inj e)) (below_alloc HBQ.out _).size; have HB7 := Aside0.mk ((below_alloc HBQ.out _).grown hg7 (below_alloc HBQ.out _).size (fun j e => Nat.le_of_eq (show wr.heap.size = j from Option.some.inj e))); have HO7 := Aside0.mk ho7; have HNE7 := Aside0.mk hne7; clear ho7 hb7 hg7 hat7 hne7)) | ((with_reducible refine gate_builtin (b := .append) (xs := #[.tmp 32, .tmp 34]) rfl ?_); at_builtin; go_must (refine Kd.R_append (Kd.slice 3 (Kd.int .i64)) (w0 := wr) base rfl (.tmp 32) (.tmp 34) 22 36 (.slice none 0 0) 24 rfl Tryz.underlying22 infoS rfl (by decide) (by decide) v7 ([] ++ os.take 0) x [.slice A1 x.length c1] (fun _ => True) (fun j => j < wr.heap.size) rfl rfl ?bP ?bN (fun _ _ => trivial) HO7.out ?bB ?bS ?bL ?_; (case bP => exact (Kd.slice 3 (Kd.int .i64)).M_move (fun j hj => HB7.out.block j hj) HM1.out); (case bN => exact fun j (hj : j < wr.heap.size) => ⟨trivial, fun e => by have := HNE7.out j e.symm; omega⟩); (case bB => exact HB7.out.mono (Nat.le_trans hb0 BW.out.size)); (case bS => exact Nat.le_trans (Nat.le_trans hb0 BW.out.size) HB7.out.size); (case bL => first | (simp; done) | (simp; omega)); intro v8 w8 ho8 hb8 hg8 hat8; have hne8 := own_grow (N := wr.heap.size) hat8 HNE7.out HB7.out.size; have HB8 := Aside0.mk (HB7.out.grown hg8 HB7.out.size HNE7.out); have HO8 := Aside0.mk ho8; have HNE8 := Aside0.mk hne8; clear ho8 hb8 hg8 hat8 hne8)) | ((with_reducible refine gate_builtin (b := .append) (xs := #[.tmp 36, .tmp 39]) rfl ?_); at_builtin; go_must (refine Kd.R_append_rows (Kd.slice 3 (Kd.int .i64)) (Rr := (Kd.slice 3 (Kd.int .i64)).M wr base (fun k => k < wr.heap.size)) (w0 := wr) base rfl (.tmp 36) (.tmp 39) 22 36 (.slice none 0 0) 24 rfl Tryz.underlying22 infoS rfl (by decide) (by decide) v8 ([] ++ os.take 0 ++ [x]) (os.drop 0) _ _ _ (fun _ => True) (fun j => j < wr.heap.size) rfl rfl HO8.out ?cR ?cK ?cN (fun _ _ => trivial) ?cB ?cS ?cL ?_; (case cR => exact ⟨by have h := HLO.out; rw [List.drop_zero, h], Nat.zero_le _, fun h => absurd h (Nat.lt_irrefl _)⟩); (case cK => exact fun _ _ h => (Kd.slice 3 (Kd.int .i64)).M_move (fun j hj => HB8.out.block j hj) h); (case cN => exact fun j (hj : j < wr.heap.size) => ⟨trivial, fun e => by have := HNE8.out j e.symm; omega⟩); (case cB => exact HB8.out.mono (Nat.le_trans hb0 BW.out.size)); (case cS => exact Nat.le_trans (Nat.le_trans hb0 BW.out.size) HB8.out.size); (case cL => first | (simp; done) | (simp; omega)); intro v9 w9 ho9 hb9 hg9 hat9; have hne9 := own_grow (N := wr.heap.size) hat9 HNE8.out HB8.out.size; have HB9 := Aside0.mk (HB8.out.grown hg9 HB8.out.size HNE8.out); have HO9 := Aside0.mk ho9; have HNE9 := Aside0.mk hne9; clear ho9 hb9 hg9 hat9 hne9)))
      have hins := insP_at befB os x [] 0 (by have := HLO.out; omega) HA.out (.inl (by have := HLO.out; omega))
      have ho9 := HO9.out
      rw [List.nil_append, hins, ← HST.out] at ho9
      obtain ⟨A9, c9, rfl⟩ := Kd.R_slice ho9
      have hl9 : (srtP befB (xs.take (0 + 1))).length = 0 + 1 := by rw [HL.out, List.length_take]; have := HN.out; omega
      rw [hl9] at ho9 ⊢
      have HO10 := Aside0.mk ho9
      clear ho9 hins
      go_roundg (N - (0 + 1))
      case measure => omega
      case rel =>
       exact ⟨0 + 1, by omega, by omega, by go_num, A9, c9, rfl, ⟨Below.trans BW.out (HB9.out.mono BW.out.size)⟩, ⟨fun j hj => Nat.le_trans BW.out.size (HNE9.out j (by rw [hl9]; exact hj))⟩, HO10⟩
     | some ad2 =>
      by_cases hck : co = k
      ·subst hck
       go_wp2_with (first | ((with_reducible refine gate_builtin (b := .append) (xs := #[.tmp 28, .tmp 31]) rfl ?_); at_builtin; go_must (refine Kd.R_append_rows (Kd.slice 3 (Kd.int .i64)) (Rr := (Kd.slice 3 (Kd.int .i64)).M wr base (fun k => k < wr.heap.size)) (w0 := wr) base rfl (.tmp 28) (.tmp 31) 22 36 (.slice none 0 0) 24 rfl Tryz.underlying22 infoS rfl (by decide) (by decide) _ [] (os.take co) _ _ _ (fun _ => True) (fun j => j < wr.heap.size) rfl rfl ?aO ?aR ?aK ?aN (fun _ _ => trivial) ?aB ?aS ?aL ?_; (case aO => exact R_made _ _ _ _ (Nat.le_trans hb0 BW.out.size)); (case aR => exact (rows_take (HLO.out.symm ▸ HRW.out) (by have := HLO.out; omega)).imp_ (below_alloc HBQ.out _) (fun _ _ h => h)); (case aK => exact fun _ _ h => (Kd.slice 3 (Kd.int .i64)).M_move (fun j hj => (below_alloc HBQ.out _).block j hj) h); (case aN => exact fun j (hj : j < wr.heap.size) => ⟨trivial, fun e => Nat.lt_irrefl _ ((show j = wr.heap.size from Option.some.inj e) ▸ hj)⟩); (case aB => exact (below_alloc HBQ.out _).mono (Nat.le_trans hb0 BW.out.size)); (case aS => exact Nat.le_trans (Nat.le_trans hb0 BW.out.size) (below_alloc HBQ.out _).size); (case aL => first | (simp; done) | (simp; omega)); intro v7 w7 ho7 hb7 hg7 hat7; have hne7 := own_grow (N := wr.heap.size) hat7 (fun j e => Nat.le_of_eq (show wr.heap.size = j from Option.some.inj e)) (below_alloc HBQ.out _).size; have HB7 := Aside0.mk ((below_alloc HBQ.out _).grown hg7 (below_alloc HBQ.out _).size (fun j e => Nat.le_of_eq (show wr.heap.size = j from Option.some.inj e))); have HO7 := Aside0.mk ho7; have HNE7 := Aside0.mk hne7; clear ho7 hb7 hg7 hat7 hne7)) | ((with_reducible refine gate_builtin (b := .append) (xs := #[.tmp 32, .tmp 34]) rfl ?_); at_builtin; go_must (refine Kd.R_append (Kd.slice 3 (Kd.int .i64)) (w0 := wr) base rfl (.tmp 32) (.tmp 34) 22 36 (.slice none 0 0) 24 rfl Tryz.underlying22 infoS rfl (by decide) (by decide) v7 ([] ++ os.take co) x [.slice A1 x.length c1] (fun _ => True) (fun j => j < wr.heap.size) rfl rfl ?bP ?bN (fun _ _ => trivial) HO7.out ?bB ?bS ?bL ?_; (case bP => exact (Kd.slice 3 (Kd.int .i64)).M_move (fun j hj => HB7.out.block j hj) HM1.out); (case bN => exact fun j (hj : j < wr.heap.size) => ⟨trivial, fun e => by have := HNE7.out j e.symm; omega⟩); (case bB => exact HB7.out.mono (Nat.le_trans hb0 BW.out.size)); (case bS => exact Nat.le_trans (Nat.le_trans hb0 BW.out.size) HB7.out.size); (case bL => first | (simp; done) | (simp; omega)); intro v8 w8 ho8 hb8 hg8 hat8; have hne8 := own_grow (N := wr.heap.size) hat8 HNE7.out HB7.out.size; have HB8 := Aside0.mk (HB7.out.grown hg8 HB7.out.size HNE7.out); have HO8 := Aside0.mk ho8; have HNE8 := Aside0.mk hne8; clear ho8 hb8 hg8 hat8 hne8)) | ((with_reducible refine gate_builtin (b := .append) (xs := #[.tmp 36, .tmp 39]) rfl ?_); at_builtin; go_must (refine Kd.R_append_rows (Kd.slice 3 (Kd.int .i64)) (Rr := (Kd.slice 3 (Kd.int .i64)).M wr base (fun k => k < wr.heap.size)) (w0 := wr) base rfl (.tmp 36) (.tmp 39) 22 36 (.slice none 0 0) 24 rfl Tryz.underlying22 infoS rfl (by decide) (by decide) v8 ([] ++ os.take co ++ [x]) (os.drop co) _ _ _ (fun _ => True) (fun j => j < wr.heap.size) rfl rfl HO8.out ?cR ?cK ?cN (fun _ _ => trivial) ?cB ?cS ?cL ?_; (case cR => have hl := HLO.out; have h := rows_drop (m := co) (c := co) (hl.symm ▸ HRW.out) (by omega) (by omega); rw [if_pos rfl, hl, Nat.sub_self] at h; exact h.imp_ HB8.out (fun _ _ h => h)); (case cK => exact fun _ _ h => (Kd.slice 3 (Kd.int .i64)).M_move (fun j hj => HB8.out.block j hj) h); (case cN => exact fun j (hj : j < wr.heap.size) => ⟨trivial, fun e => by have := HNE8.out j e.symm; omega⟩); (case cB => exact HB8.out.mono (Nat.le_trans hb0 BW.out.size)); (case cS => exact Nat.le_trans (Nat.le_trans hb0 BW.out.size) HB8.out.size); (case cL => first | (simp; done) | (simp; omega)); intro v9 w9 ho9 hb9 hg9 hat9; have hne9 := own_grow (N := wr.heap.size) hat9 HNE8.out HB8.out.size; have HB9 := Aside0.mk (HB8.out.grown hg9 HB8.out.size HNE8.out); have HO9 := Aside0.mk ho9; have HNE9 := Aside0.mk hne9; clear ho9 hb9 hg9 hat9 hne9)))
       have hins := insP_at befB os x [] co (by have := HLO.out; omega) HA.out (.inl (by have := HLO.out; omega))
       have ho9 := HO9.out
       rw [List.nil_append, hins, ← HST.out] at ho9
       obtain ⟨A9, c9, rfl⟩ := Kd.R_slice ho9
       have hl9 : (srtP befB (xs.take (co + 1))).length = co + 1 := by rw [HL.out, List.length_take]; have := HN.out; omega
       rw [hl9] at ho9 ⊢
       have HO10 := Aside0.mk ho9
       clear ho9 hins
       go_roundg (N - (co + 1))
       case measure => omega
       case rel =>
        exact ⟨co + 1, by omega, by omega, by go_num, A9, c9, rfl, ⟨Below.trans BW.out (HB9.out.mono BW.out.size)⟩, ⟨fun j hj => Nat.le_trans BW.out.size (HNE9.out j (by rw [hl9]; exact hj))⟩, HO10⟩
      ·skip
       go_wp2_with (first | ((with_reducible refine gate_builtin (b := .append) (xs := #[.tmp 28, .tmp 31]) rfl ?_); at_builtin; go_must (refine Kd.R_append_rows (Kd.slice 3 (Kd.int .i64)) (Rr := (Kd.slice 3 (Kd.int .i64)).M wr base (fun k => k < wr.heap.size)) (w0 := wr) base rfl (.tmp 28) (.tmp 31) 22 36 (.slice none 0 0) 24 rfl Tryz.underlying22 infoS rfl (by decide) (by decide) _ [] (os.take k) _ _ _ (fun _ => True) (fun j => j < wr.heap.size) rfl rfl ?aO ?aR ?aK ?aN (fun _ _ => trivial) ?aB ?aS ?aL ?_; (case aO => exact R_made _ _ _ _ (Nat.le_trans hb0 BW.out.size)); (case aR => exact (rows_take (HLO.out.symm ▸ HRW.out) (by have := HLO.out; omega)).imp_ (below_alloc HBQ.out _) (fun _ _ h => h)); (case aK => exact fun _ _ h => (Kd.slice 3 (Kd.int .i64)).M_move (fun j hj => (below_alloc HBQ.out _).block j hj) h); (case aN => exact fun j (hj : j < wr.heap.size) => ⟨trivial, fun e => Nat.lt_irrefl _ ((show j = wr.heap.size from Option.some.inj e) ▸ hj)⟩); (case aB => exact (below_alloc HBQ.out _).mono (Nat.le_trans hb0 BW.out.size)); (case aS => exact Nat.le_trans (Nat.le_trans hb0 BW.out.size) (below_alloc HBQ.out _).size); (case aL => first | (simp; done) | (simp; omega)); intro v7 w7 ho7 hb7 hg7 hat7; have hne7 := own_grow (N := wr.heap.size) hat7 (fun j e => Nat.le_of_eq (show wr.heap.size = j from Option.some.inj e)) (below_alloc HBQ.out _).size; have HB7 := Aside0.mk ((below_alloc HBQ.out _).grown hg7 (below_alloc HBQ.out _).size (fun j e => Nat.le_of_eq (show wr.heap.size = j from Option.some.inj e))); have HO7 := Aside0.mk ho7; have HNE7 := Aside0.mk hne7; clear ho7 hb7 hg7 hat7 hne7)) | ((with_reducible refine gate_builtin (b := .append) (xs := #[.tmp 32, .tmp 34]) rfl ?_); at_builtin; go_must (refine Kd.R_append (Kd.slice 3 (Kd.int .i64)) (w0 := wr) base rfl (.tmp 32) (.tmp 34) 22 36 (.slice none 0 0) 24 rfl Tryz.underlying22 infoS rfl (by decide) (by decide) v7 ([] ++ os.take k) x [.slice A1 x.length c1] (fun _ => True) (fun j => j < wr.heap.size) rfl rfl ?bP ?bN (fun _ _ => trivial) HO7.out ?bB ?bS ?bL ?_; (case bP => exact (Kd.slice 3 (Kd.int .i64)).M_move (fun j hj => HB7.out.block j hj) HM1.out); (case bN => exact fun j (hj : j < wr.heap.size) => ⟨trivial, fun e => by have := HNE7.out j e.symm; omega⟩); (case bB => exact HB7.out.mono (Nat.le_trans hb0 BW.out.size)); (case bS => exact Nat.le_trans (Nat.le_trans hb0 BW.out.size) HB7.out.size); (case bL => first | (simp; done) | (simp; omega)); intro v8 w8 ho8 hb8 hg8 hat8; have hne8 := own_grow (N := wr.heap.size) hat8 HNE7.out HB7.out.size; have HB8 := Aside0.mk (HB7.out.grown hg8 HB7.out.size HNE7.out); have HO8 := Aside0.mk ho8; have HNE8 := Aside0.mk hne8; clear ho8 hb8 hg8 hat8 hne8)) | ((with_reducible refine gate_builtin (b := .append) (xs := #[.tmp 36, .tmp 39]) rfl ?_); at_builtin; go_must (refine Kd.R_append_rows (Kd.slice 3 (Kd.int .i64)) (Rr := (Kd.slice 3 (Kd.int .i64)).M wr base (fun k => k < wr.heap.size)) (w0 := wr) base rfl (.tmp 36) (.tmp 39) 22 36 (.slice none 0 0) 24 rfl Tryz.underlying22 infoS rfl (by decide) (by decide) v8 ([] ++ os.take k ++ [x]) (os.drop k) _ _ _ (fun _ => True) (fun j => j < wr.heap.size) rfl rfl HO8.out ?cR ?cK ?cN (fun _ _ => trivial) ?cB ?cS ?cL ?_; (case cR => have hl := HLO.out; have h := rows_drop (m := k) (c := co) (hl.symm ▸ HRW.out) (by omega) (by omega); rw [if_neg (by omega), hl] at h; have h9 := h.imp_ HB8.out (fun _ _ h => h); rw [show (Kd.slice 3 (Kd.int .i64)).sz = 1 from rfl, Nat.mul_one] at h9; rw [Nat.sub_self] at h9; exact h9); (case cK => exact fun _ _ h => (Kd.slice 3 (Kd.int .i64)).M_move (fun j hj => HB8.out.block j hj) h); (case cN => exact fun j (hj : j < wr.heap.size) => ⟨trivial, fun e => by have := HNE8.out j e.symm; omega⟩); (case cB => exact HB8.out.mono (Nat.le_trans hb0 BW.out.size)); (case cS => exact Nat.le_trans (Nat.le_trans hb0 BW.out.size) HB8.out.size); (case cL => first | (simp; done) | (simp; omega)); intro v9 w9 ho9 hb9 hg9 hat9; have hne9 := own_grow (N := wr.heap.size) hat9 HNE8.out HB8.out.size; have HB9 := Aside0.mk (HB8.out.grown hg9 HB8.out.size HNE8.out); have HO9 := Aside0.mk ho9; have HNE9 := Aside0.mk hne9; clear ho9 hb9 hg9 hat9 hne9)))
       have hins := insP_at befB os x [] k (by have := HLO.out; omega) HA.out (.inl (by have := HLO.out; omega))
       have ho9 := HO9.out
       rw [List.nil_append, hins, ← HST.out] at ho9
       obtain ⟨A9, c9, rfl⟩ := Kd.R_slice ho9
       have hl9 : (srtP befB (xs.take (k + 1))).length = k + 1 := by rw [HL.out, List.length_take]; have := HN.out; omega
       rw [hl9] at ho9 ⊢
       have HO10 := Aside0.mk ho9
       clear ho9 hins
       go_roundg (N - (k + 1))
       case measure => omega
       case rel =>
        exact ⟨k + 1, by omega, by omega, by go_num, A9, c9, rfl, ⟨Below.trans BW.out (HB9.out.mono BW.out.size)⟩, ⟨fun j hj => Nat.le_trans BW.out.size (HNE9.out j (by rw [hl9]; exact hj))⟩, HO10⟩
  ·have hltz : ¬ (kk : Int) < (N : Int) := by omega
   have : kk = N := by omega
   subst this
   have ho := HO.out
   rw [HN.out, List.take_length] at ho
   have HO' := Aside0.mk ho
   clear ho
   go_wp2
   go_ret
   exact ⟨_, rfl, (by have := HO'.out; rw [← HN.out] at this; exact this), BW.out⟩
end Go.Proofs.YtnncjnjfdhbddaaGreat.Z
namespace Go.Proofs.YtnncjnjfdhbddaaGreat.Z
open Go.RowKit Go.Proofs.YtnncjnjfdhbddaaGreatW.PrintWords Go.Proofs.YtnncjnjfdhbddaaGreatW.PrintLast Go.Proofs.YtnncjnjfdhbddaaGreatW.PrintMore
attribute [local go_sem] max2_int min2_int max_two min_two max_three min_three max_four min_four
set_option linter.unusedVariables false
set_option linter.unusedSimpArgs false
set_option maxRecDepth 100000 in
set_option maxHeartbeats 1000000 in
theorem voList_any (m : Nat) (hm : m < 2 ^ 62) (w : World) :
  Calls Tryz.prog 96 #[.int .i64 (m : Int)] w fun e w' => ∃ v : Value, e = .returned v ∧ Kd.R (Kd.int .i64) 3 w' w.heap.size (fun _ => True) v (setI m) ∧ Below w.heap.size w w' := by
 have HM := Aside0.mk hm
 clear hm
 go_enter Tryz.func96, Tryz.ntmps96
 go_wp2
 go_loopg [3, 4] 62 (fun gg v3 s4 wr => ∃ kk : Nat, kk ≤ 62 ∧ 62 - kk ≤ gg ∧ s4 = .int .i64 kk ∧ Aside0 (Below w.heap.size w wr) ∧ Aside0 (Kd.R (Kd.int .i64) 3 wr w.heap.size (fun _ => True) v3 (setUpto m kk)))
 case atStart => exact ⟨0, by omega, by omega, rfl, ⟨Below.refl _ _⟩, ⟨Kd.R_nil _ _ _ _ _⟩⟩
 case round =>
  obtain ⟨kk, hkk, hg, rfl, BW, HO⟩ := hrel
  have h0 : (0 : Int) ≤ (kk : Int) := by omega
  have hlen := setUpto_len m kk
  have hz : kk = 62 → m >>> kk = 0 := fun e => by rw [e, Nat.shiftRight_eq_div_pow]; exact Nat.div_eq_of_lt HM.out
  have hb1 := shift_bit m kk
  have h1 := shiftI m kk
  have hend := setUpto_all (m := m) (kk := kk)
  generalize m >>> kk = q at hz hb1 h1 hend
  have HE := Aside0.mk hend
  clear hend
  by_cases hp : q = 0
  ·have hpd : decide (0 < q) = false := decide_eq_false (by omega)
   have HQ := Aside0.mk hp
   clear hp hz hb1
   go_wp2
   go_ret
   exact ⟨_, rfl, by rw [← HE.out HQ.out hkk]; exact HO.out, BW.out⟩
  ·have hlt : kk < 62 := by
    rcases Nat.lt_or_ge kk 62 with h | h
    ·exact h
    ·exact absurd (hz (by omega)) hp
   have hpd : decide (0 < q) = true := decide_eq_true (by omega)
   clear hp hz HE
   cases hbit : m.testBit kk with
   | false =>
    rw [hbit, if_neg (by simp)] at hb1
    have hb2 : (q : Int) % 2 = 0 := by omega
    have hb3 : Int.tmod (q : Int) 2 = 0 := by rw [Int.tmod_eq_emod_of_nonneg (by omega)]; exact hb2
    have HB := Aside0.mk hbit
    clear hbit
    go_wp2
    go_roundg (62 - (kk + 1))
    case measure => omega
    case rel => exact ⟨kk + 1, by omega, by omega, by go_num, BW, ⟨by rw [setUpto_no HB.out]; exact HO.out⟩⟩
   | true =>
    rw [hbit, if_pos rfl] at hb1
    have hb2 : (q : Int) % 2 = 1 := by omega
    have hb3 : Int.tmod (q : Int) 2 = 1 := by rw [Int.tmod_eq_emod_of_nonneg (by omega)]; exact hb2
    have HB := Aside0.mk hbit
    clear hbit
    go_wp2_with ((with_reducible refine gate_builtin (b := .append) (xs := #[.tmp 16, .tmp 18]) rfl ?_); at_builtin; refine Kd.R_append (Kd.int .i64) (w0 := w) w.heap.size rfl (.tmp 16) (.tmp 18) 36 3 (.int .i64 0) 8 rfl Tryz.underlying36 infoI rfl (by decide) (by omega) u3 (setUpto m kk) (kk : Int) [.int .i64 (kk : Int)] (fun _ => True) (fun _ => False) rfl rfl rfl (fun _ hk => hk.elim) (fun _ _ => trivial) HO.out BW.out BW.out.size (by omega) ?_; intro v1 w1 ho hb hg hat; have HO1 := Aside0.mk ho; have HB1 := Aside0.mk hb; clear ho hb hg hat)
    go_roundg (62 - (kk + 1))
    case measure => omega
    case rel => exact ⟨kk + 1, by omega, by omega, by go_num, HB1, ⟨by rw [setUpto_yes HB.out]; exact HO1.out⟩⟩
def spec_voList.f (a0 : Int) : Option (List Int) := if 0 ≤ a0 ∧ a0 < 2 ^ 62 then some (setI a0.toNat) else none
theorem spec_voList.calls (a0 : Int) (r : List Int) (w : World) (h : spec_voList.f a0 = some r) :
  Calls Tryz.prog 96 #[.int .i64 a0] w fun e w' => ∃ v0_ : Value, e = .returned (v0_) ∧ Kd.R (Kd.int .i64) 3 w' w.heap.size (fun _ => True) v0_ r ∧ Below w.heap.size w w' := by
 unfold spec_voList.f at h
 split at h
 ·obtain rfl := Option.some.inj h
  obtain ⟨m, rfl⟩ := Int.eq_ofNat_of_zero_le (by omega : 0 ≤ a0)
  exact voList_any m (by omega) w
 ·cases h
end Go.Proofs.YtnncjnjfdhbddaaGreat.Z
namespace Go.Proofs.YtnncjnjfdhbddaaGreat.Z
open Go.RowKit Go.Proofs.YtnncjnjfdhbddaaGreatW.PrintWords Go.Proofs.YtnncjnjfdhbddaaGreatW.PrintLast Go.Proofs.YtnncjnjfdhbddaaGreatW.PrintMore
attribute [local go_sem] max2_int min2_int max_two min_two max_three min_three max_four min_four
set_option linter.unusedVariables false
set_option linter.unusedSimpArgs false
def cmp_isNaN_int.f (a0 : Int) : Option (Bool) := some (a0 != a0)
set_option maxHeartbeats 8000000 in
set_option maxRecDepth 100000 in
theorem cmp_isNaN_int.calls (a0 : Int) (r : Bool) (w : World) (h : cmp_isNaN_int.f a0 = some r) :
  Calls Tryz.prog 162 #[.int .i64 a0] w fun e w' => e = .returned (.bool r) ∧ Drawn0 w w' := by
 have H : (some (a0 != a0)) = some r := h
 clear h
 obtain rfl := Option.some.inj H
 go_enter Tryz.func162, Tryz.ntmps162
 go_wp2
 go_ret
 exact ⟨by first | rfl | (simp; done) | (simp [*]; done), by repeat (first | exact Drawn0.refl _ | apply Drawn0.step)⟩
end Go.Proofs.YtnncjnjfdhbddaaGreat.Z
namespace Go.Proofs.YtnncjnjfdhbddaaGreat.Z
open Go.RowKit Go.Proofs.YtnncjnjfdhbddaaGreatW.PrintWords Go.Proofs.YtnncjnjfdhbddaaGreatW.PrintLast Go.Proofs.YtnncjnjfdhbddaaGreatW.PrintMore
attribute [local go_sem] max2_int min2_int max_two min_two max_three min_three max_four min_four
set_option linter.unusedVariables false
set_option linter.unusedSimpArgs false
def cmp_Compare_int.f (a0 : Int) (a1 : Int) : Option (Int) := (cmp_isNaN_int.f a0).bind fun t572 => ((cmp_isNaN_int.f a1).bind fun t573 => (if t572 = true then (if t573 = true then (some 0) else (some (-1))) else (if t573 = true then (some 1) else (if a0 < a1 then (some (-1)) else (if a0 > a1 then (some 1) else (some 0))))))
set_option maxHeartbeats 8000000 in
set_option maxRecDepth 100000 in
theorem cmp_Compare_int.calls (a0 : Int) (a1 : Int) (r : Int) (w : World) (h : cmp_Compare_int.f a0 a1 = some r) :
  Calls Tryz.prog 144 #[.int .i64 a0, .int .i64 a1] w fun e w' => e = .returned (.int .i64 r) ∧ Drawn0 w w' := by
 have H : ((cmp_isNaN_int.f a0).bind fun t572 => ((cmp_isNaN_int.f a1).bind fun t573 => (if t572 = true then (if t573 = true then (some 0) else (some (-1))) else (if t573 = true then (some 1) else (if a0 < a1 then (some (-1)) else (if a0 > a1 then (some 1) else (some 0))))))) = some r := h
 clear h
 replace H := Option.bind_eq_some_iff.mp H
 obtain ⟨t572, A30, H⟩ := H
 replace H : ((cmp_isNaN_int.f a1).bind fun t573 => (if t572 = true then (if t573 = true then (some 0) else (some (-1))) else (if t573 = true then (some 1) else (if a0 < a1 then (some (-1)) else (if a0 > a1 then (some 1) else (some 0)))))) = some r := H
 have A3 := Aside0.mk A30
 clear A30
 replace H := Option.bind_eq_some_iff.mp H
 obtain ⟨t573, A40, H⟩ := H
 replace H : (if t572 = true then (if t573 = true then (some 0) else (some (-1))) else (if t573 = true then (some 1) else (if a0 < a1 then (some (-1)) else (if a0 > a1 then (some 1) else (some 0))))) = some r := H
 have A4 := Aside0.mk A40
 clear A40
 by_cases c5 : t572 = true
 ·subst c5
  have H1 : (if t573 = true then (some 0) else (some (-1))) = some r := by rw [if_pos rfl] at H; exact H
  clear H
  have H := H1
  clear H1
  by_cases c6 : t573 = true
  ·subst c6
   have H1 : (some 0) = some r := by rw [if_pos rfl] at H; exact H
   clear H
   have H := H1
   clear H1
   obtain rfl := Option.some.inj H
   go_enter Tryz.func144, Tryz.ntmps144
   go_wp2_with (first | ((with_reducible refine gate_callee (f := 162) rfl ?_); refine goesL_ (some 8) rfl rfl Tryz.func162 (by kernel_rfl) rfl #[.int .i64 a0] rfl (by (try simp only [List.map_toArray, List.map_cons, List.map_nil]); first | done | rfl | (simp only [List.length_drop, List.length_take]; rfl)) ?_; (with_reducible refine (cmp_isNaN_int.calls a0 true _ A3.out).mono ?_); rintro e w' ⟨rfl, ⟨nd, rfl⟩⟩; refine ⟨_, rfl, ?_⟩) | ((with_reducible refine gate_callee (f := 162) rfl ?_); refine goesL_ (some 10) rfl rfl Tryz.func162 (by kernel_rfl) rfl #[.int .i64 a1] rfl (by (try simp only [List.map_toArray, List.map_cons, List.map_nil]); first | done | rfl | (simp only [List.length_drop, List.length_take]; rfl)) ?_; (with_reducible refine (cmp_isNaN_int.calls a1 true _ A4.out).mono ?_); rintro e w' ⟨rfl, ⟨nd, rfl⟩⟩; refine ⟨_, rfl, ?_⟩))
   go_ret
   exact ⟨by first | rfl | (simp; done) | (simp [*]; done), by repeat (first | exact Drawn0.refl _ | apply Drawn0.step)⟩
  ·replace c6 := Bool.eq_false_iff.mpr c6
   subst c6
   have H1 : (some (-1)) = some r := by rw [if_neg (show ¬ (false = true) by decide)] at H; exact H
   clear H
   have H := H1
   clear H1
   obtain rfl := Option.some.inj H
   go_enter Tryz.func144, Tryz.ntmps144
   go_wp2_with (first | ((with_reducible refine gate_callee (f := 162) rfl ?_); refine goesL_ (some 8) rfl rfl Tryz.func162 (by kernel_rfl) rfl #[.int .i64 a0] rfl (by (try simp only [List.map_toArray, List.map_cons, List.map_nil]); first | done | rfl | (simp only [List.length_drop, List.length_take]; rfl)) ?_; (with_reducible refine (cmp_isNaN_int.calls a0 true _ A3.out).mono ?_); rintro e w' ⟨rfl, ⟨nd, rfl⟩⟩; refine ⟨_, rfl, ?_⟩) | ((with_reducible refine gate_callee (f := 162) rfl ?_); refine goesL_ (some 10) rfl rfl Tryz.func162 (by kernel_rfl) rfl #[.int .i64 a1] rfl (by (try simp only [List.map_toArray, List.map_cons, List.map_nil]); first | done | rfl | (simp only [List.length_drop, List.length_take]; rfl)) ?_; (with_reducible refine (cmp_isNaN_int.calls a1 false _ A4.out).mono ?_); rintro e w' ⟨rfl, ⟨nd, rfl⟩⟩; refine ⟨_, rfl, ?_⟩))
   go_ret
   exact ⟨by first | rfl | (simp; done) | (simp [*]; done), by repeat (first | exact Drawn0.refl _ | apply Drawn0.step)⟩
 ·replace c5 := Bool.eq_false_iff.mpr c5
  subst c5
  have H1 : (if t573 = true then (some 1) else (if a0 < a1 then (some (-1)) else (if a0 > a1 then (some 1) else (some 0)))) = some r := by rw [if_neg (show ¬ (false = true) by decide)] at H; exact H
  clear H
  have H := H1
  clear H1
  by_cases c7 : t573 = true
  ·subst c7
   have H1 : (some 1) = some r := by rw [if_pos rfl] at H; exact H
   clear H
   have H := H1
   clear H1
   obtain rfl := Option.some.inj H
   go_enter Tryz.func144, Tryz.ntmps144
   go_wp2_with (first | ((with_reducible refine gate_callee (f := 162) rfl ?_); refine goesL_ (some 8) rfl rfl Tryz.func162 (by kernel_rfl) rfl #[.int .i64 a0] rfl (by (try simp only [List.map_toArray, List.map_cons, List.map_nil]); first | done | rfl | (simp only [List.length_drop, List.length_take]; rfl)) ?_; (with_reducible refine (cmp_isNaN_int.calls a0 false _ A3.out).mono ?_); rintro e w' ⟨rfl, ⟨nd, rfl⟩⟩; refine ⟨_, rfl, ?_⟩) | ((with_reducible refine gate_callee (f := 162) rfl ?_); refine goesL_ (some 10) rfl rfl Tryz.func162 (by kernel_rfl) rfl #[.int .i64 a1] rfl (by (try simp only [List.map_toArray, List.map_cons, List.map_nil]); first | done | rfl | (simp only [List.length_drop, List.length_take]; rfl)) ?_; (with_reducible refine (cmp_isNaN_int.calls a1 true _ A4.out).mono ?_); rintro e w' ⟨rfl, ⟨nd, rfl⟩⟩; refine ⟨_, rfl, ?_⟩))
   go_ret
   exact ⟨by first | rfl | (simp; done) | (simp [*]; done), by repeat (first | exact Drawn0.refl _ | apply Drawn0.step)⟩
  ·replace c7 := Bool.eq_false_iff.mpr c7
   subst c7
   have H1 : (if a0 < a1 then (some (-1)) else (if a0 > a1 then (some 1) else (some 0))) = some r := by rw [if_neg (show ¬ (false = true) by decide)] at H; exact H
   clear H
   have H := H1
   clear H1
   by_cases c8 : a0 < a1
   ·rw [if_pos c8] at H
    have c8b0 : decide (a0 < a1) = true := decide_eq_true c8
    clear c8
    obtain rfl := Option.some.inj H
    go_enter Tryz.func144, Tryz.ntmps144
    go_wp2_with (first | ((with_reducible refine gate_callee (f := 162) rfl ?_); refine goesL_ (some 8) rfl rfl Tryz.func162 (by kernel_rfl) rfl #[.int .i64 a0] rfl (by (try simp only [List.map_toArray, List.map_cons, List.map_nil]); first | done | rfl | (simp only [List.length_drop, List.length_take]; rfl)) ?_; (with_reducible refine (cmp_isNaN_int.calls a0 false _ A3.out).mono ?_); rintro e w' ⟨rfl, ⟨nd, rfl⟩⟩; refine ⟨_, rfl, ?_⟩) | ((with_reducible refine gate_callee (f := 162) rfl ?_); refine goesL_ (some 10) rfl rfl Tryz.func162 (by kernel_rfl) rfl #[.int .i64 a1] rfl (by (try simp only [List.map_toArray, List.map_cons, List.map_nil]); first | done | rfl | (simp only [List.length_drop, List.length_take]; rfl)) ?_; (with_reducible refine (cmp_isNaN_int.calls a1 false _ A4.out).mono ?_); rintro e w' ⟨rfl, ⟨nd, rfl⟩⟩; refine ⟨_, rfl, ?_⟩))
    go_ret
    exact ⟨by first | rfl | (simp; done) | (simp [*]; done), by repeat (first | exact Drawn0.refl _ | apply Drawn0.step)⟩
   ·rw [if_neg c8] at H
    have c8b0 : decide (a0 < a1) = false := decide_eq_false c8
    clear c8
    by_cases c9 : a0 > a1
    ·rw [if_pos c9] at H
     have c9b0 : decide (a1 < a0) = true := decide_eq_true c9
     clear c9
     obtain rfl := Option.some.inj H
     go_enter Tryz.func144, Tryz.ntmps144
     go_wp2_with (first | ((with_reducible refine gate_callee (f := 162) rfl ?_); refine goesL_ (some 8) rfl rfl Tryz.func162 (by kernel_rfl) rfl #[.int .i64 a0] rfl (by (try simp only [List.map_toArray, List.map_cons, List.map_nil]); first | done | rfl | (simp only [List.length_drop, List.length_take]; rfl)) ?_; (with_reducible refine (cmp_isNaN_int.calls a0 false _ A3.out).mono ?_); rintro e w' ⟨rfl, ⟨nd, rfl⟩⟩; refine ⟨_, rfl, ?_⟩) | ((with_reducible refine gate_callee (f := 162) rfl ?_); refine goesL_ (some 10) rfl rfl Tryz.func162 (by kernel_rfl) rfl #[.int .i64 a1] rfl (by (try simp only [List.map_toArray, List.map_cons, List.map_nil]); first | done | rfl | (simp only [List.length_drop, List.length_take]; rfl)) ?_; (with_reducible refine (cmp_isNaN_int.calls a1 false _ A4.out).mono ?_); rintro e w' ⟨rfl, ⟨nd, rfl⟩⟩; refine ⟨_, rfl, ?_⟩))
     go_ret
     exact ⟨by first | rfl | (simp; done) | (simp [*]; done), by repeat (first | exact Drawn0.refl _ | apply Drawn0.step)⟩
    ·rw [if_neg c9] at H
     have c9b0 : decide (a1 < a0) = false := decide_eq_false c9
     clear c9
     obtain rfl := Option.some.inj H
     go_enter Tryz.func144, Tryz.ntmps144
     go_wp2_with (first | ((with_reducible refine gate_callee (f := 162) rfl ?_); refine goesL_ (some 8) rfl rfl Tryz.func162 (by kernel_rfl) rfl #[.int .i64 a0] rfl (by (try simp only [List.map_toArray, List.map_cons, List.map_nil]); first | done | rfl | (simp only [List.length_drop, List.length_take]; rfl)) ?_; (with_reducible refine (cmp_isNaN_int.calls a0 false _ A3.out).mono ?_); rintro e w' ⟨rfl, ⟨nd, rfl⟩⟩; refine ⟨_, rfl, ?_⟩) | ((with_reducible refine gate_callee (f := 162) rfl ?_); refine goesL_ (some 10) rfl rfl Tryz.func162 (by kernel_rfl) rfl #[.int .i64 a1] rfl (by (try simp only [List.map_toArray, List.map_cons, List.map_nil]); first | done | rfl | (simp only [List.length_drop, List.length_take]; rfl)) ?_; (with_reducible refine (cmp_isNaN_int.calls a1 false _ A4.out).mono ?_); rintro e w' ⟨rfl, ⟨nd, rfl⟩⟩; refine ⟨_, rfl, ?_⟩))
     go_ret
     exact ⟨by first | rfl | (simp; done) | (simp [*]; done), by repeat (first | exact Drawn0.refl _ | apply Drawn0.step)⟩
end Go.Proofs.YtnncjnjfdhbddaaGreat.Z
namespace Go.Proofs.YtnncjnjfdhbddaaGreat.Z
open Go.RowKit Go.Proofs.YtnncjnjfdhbddaaGreatW.PrintWords Go.Proofs.YtnncjnjfdhbddaaGreatW.PrintLast Go.Proofs.YtnncjnjfdhbddaaGreatW.PrintMore
attribute [local go_sem] max2_int min2_int max_two min_two max_three min_three max_four min_four
set_option linter.unusedVariables false
set_option linter.unusedSimpArgs false
def slices_Compare_int_int.l0 : Nat → List Int → List Int → List Int → Int → Int → Option (Int)
 | 0, _, _, _, _, _ => none
 | k + 1, x0, x1, x9, x10, x11 => if x11 < x10 then (if 0 ≤ x11 then (if x11 < (x9.length : Int) then (if x11 ≥ (x1.length : Int) then (some 1) else (if x11 < (x1.length : Int) then ((cmp_Compare_int.f (rd x9 x11) (rd x1 x11)).bind fun t576 => (if t576 = 0 then (slices_Compare_int_int.l0 k x0 x1 x9 x10 (wrap64 (x11 + 1))) else (some t576))) else (none))) else (none)) else (none)) else (if (x0.length : Int) < (x1.length : Int) then (some (-1)) else (some 0))
def slices_Compare_int_int.f (k : Nat) (l0 : List Int) (l1 : List Int) : Option (Int) := slices_Compare_int_int.l0 k l0 l1 l0 (l0.length : Int) 0
set_option maxHeartbeats 8000000 in
set_option maxRecDepth 100000 in
theorem slices_Compare_int_int.calls (k : Nat) (A0 : Option Addr) (c0 : Nat) (l0 : List Int) (A1 : Option Addr) (c1 : Nat) (l1 : List Int) (r : Int) (w : World) (hr0 : Kd.C (Kd.int .i64) w A0 l0.length l0) (hc0 : l0.length ≤ c0) (hr1 : Kd.C (Kd.int .i64) w A1 l1.length l1) (hc1 : l1.length ≤ c1) (h : slices_Compare_int_int.f k l0 l1 = some r) :
  Calls Tryz.prog 110 #[.slice A0 l0.length c0, .slice A1 l1.length c1] w fun e w' => e = .returned (.int .i64 r) ∧ Drawn0 w w' := by
 have HR0 := Aside0.mk hr0
 have HC0 := Aside0.mk hc0
 clear hr0 hc0
 have HR1 := Aside0.mk hr1
 have HC1 := Aside0.mk hc1
 clear hr1 hc1
 have H : (slices_Compare_int_int.l0 k l0 l1 l0 (l0.length : Int) 0) = some r := h
 clear h
 have H' := Aside0.mk H
 clear H
 go_enter Tryz.func110, Tryz.ntmps110
 go_wp2
 go_loopg [11] k (fun kq v11 w' => ∃ (x11_1 : Int), v11 = .int .i64 x11_1 ∧ Aside0 (slices_Compare_int_int.l0 kq l0 l1 l0 (l0.length : Int) x11_1 = some r) ∧ Aside0 (kq ≤ k) ∧ Drawn0 w w')
 case atStart => exact ⟨(0), (by first | rfl | (simp; done) | (simp [*]; done)), H', ⟨Nat.le_refl _⟩, by repeat (first | exact Drawn0.refl _ | apply Drawn0.step)⟩
 case round =>
  clear H'
  try clear c1
  try clear p2
  obtain ⟨x11_1, rfl, HA, HK1, ⟨m1, rfl⟩⟩ := hrel
  cases gk with
  | zero => exact absurd HA.out (by simp [slices_Compare_int_int.l0])
  | succ k1 =>
   have H := HA.out
   clear HA
   simp only [slices_Compare_int_int.l0] at H
   by_cases c3 : x11_1 < (l0.length : Int)
   ·rw [if_pos c3] at H
    have c3b0 : decide (x11_1 < (l0.length : Int)) = true := decide_eq_true c3
    clear c3
    by_cases c4 : 0 ≤ x11_1
    ·rw [if_pos c4] at H
     have c4b0 : decide (0 ≤ x11_1) = true := decide_eq_true c4
     clear c4
     by_cases c5 : x11_1 < (l0.length : Int)
     ·rw [if_pos c5] at H
      have c5b0 : decide (x11_1 < (l0.length : Int)) = true := decide_eq_true c5
      clear c5
      by_cases c6 : x11_1 ≥ (l1.length : Int)
      ·rw [if_pos c6] at H
       have c6b0 : decide ((l1.length : Int) ≤ x11_1) = true := decide_eq_true c6
       clear c6
       obtain rfl := Option.some.inj H
       have p574 : 0 ≤ (x11_1 : Int) := of_decide_eq_true (by first | (with_reducible assumption) | assumption)
       have q574 : x11_1 < (l0.length : Int) := of_decide_eq_true (by first | (with_reducible assumption) | assumption)
       obtain ⟨ad574, e574, hx574_0⟩ := Kd.at_int HR0.out x11_1 p574 q574
       cases e574
       replace p574 := eq_true p574
       replace q574 := eq_true q574
       go_wp2
       go_ret
       exact ⟨by first | rfl | (simp; done) | (simp [*]; done), by repeat (first | exact Drawn0.refl _ | apply Drawn0.step)⟩
      ·rw [if_neg c6] at H
       have c6b0 : decide ((l1.length : Int) ≤ x11_1) = false := decide_eq_false c6
       clear c6
       by_cases c7 : x11_1 < (l1.length : Int)
       ·rw [if_pos c7] at H
        have c7b0 : decide (x11_1 < (l1.length : Int)) = true := decide_eq_true c7
        clear c7
        replace H := Option.bind_eq_some_iff.mp H
        obtain ⟨t576, A80, H⟩ := H
        replace H : (if t576 = 0 then (slices_Compare_int_int.l0 k1 l0 l1 l0 (l0.length : Int) (wrap64 (x11_1 + 1))) else (some t576)) = some r := H
        have A8 := Aside0.mk A80
        clear A80
        by_cases c9 : t576 = 0
        ·rw [if_pos c9] at H
         have c9b0 : (t576 == 0) = true := beq_iff_eq.mpr c9
         have c9b1 : (t576 != 0) = false := bne_eq_false_iff_eq.mpr c9
         clear c9
         have H' := Aside0.mk H
         clear H
         have p574 : 0 ≤ (x11_1 : Int) := of_decide_eq_true (by first | (with_reducible assumption) | assumption)
         have q574 : x11_1 < (l0.length : Int) := of_decide_eq_true (by first | (with_reducible assumption) | assumption)
         obtain ⟨ad574, e574, hx574_0⟩ := Kd.at_int HR0.out x11_1 p574 q574
         cases e574
         replace p574 := eq_true p574
         replace q574 := eq_true q574
         have p575 : 0 ≤ (x11_1 : Int) := of_decide_eq_true (by first | (with_reducible assumption) | assumption)
         have q575 : x11_1 < (l1.length : Int) := of_decide_eq_true (by first | (with_reducible assumption) | assumption)
         obtain ⟨ad575, e575, hx575_0⟩ := Kd.at_int HR1.out x11_1 p575 q575
         cases e575
         replace p575 := eq_true p575
         replace q575 := eq_true q575
         go_wp2_with (first | ((with_reducible refine gate_callee (f := 144) rfl ?_); refine goesL_ (some 26) rfl rfl Tryz.func144 (by kernel_rfl) rfl #[.int .i64 (rd l0 x11_1), .int .i64 (rd l1 x11_1)] rfl (by (try simp only [List.map_toArray, List.map_cons, List.map_nil]); first | done | rfl | (simp only [List.length_drop, List.length_take]; rfl)) ?_; (with_reducible refine (cmp_Compare_int.calls (rd l0 x11_1) (rd l1 x11_1) t576 _ A8.out).mono ?_); rintro e w' ⟨rfl, ⟨nd, rfl⟩⟩; refine ⟨_, rfl, ?_⟩))
         go_roundg k1
         case measure => have := HK1.out; omega
         case rel => exact ⟨(wrap64 (x11_1 + 1)), (by first | rfl | (simp; done) | (simp [*]; done)), H', ⟨by have := HK1.out; omega⟩, by repeat (first | exact Drawn0.refl _ | apply Drawn0.step)⟩
        ·rw [if_neg c9] at H
         have c9b0 : (t576 == 0) = false := beq_eq_false_iff_ne.mpr c9
         have c9b1 : (t576 != 0) = true := bne_iff_ne.mpr c9
         obtain rfl := Option.some.inj H
         have p574 : 0 ≤ (x11_1 : Int) := of_decide_eq_true (by first | (with_reducible assumption) | assumption)
         have q574 : x11_1 < (l0.length : Int) := of_decide_eq_true (by first | (with_reducible assumption) | assumption)
         obtain ⟨ad574, e574, hx574_0⟩ := Kd.at_int HR0.out x11_1 p574 q574
         cases e574
         replace p574 := eq_true p574
         replace q574 := eq_true q574
         have p575 : 0 ≤ (x11_1 : Int) := of_decide_eq_true (by first | (with_reducible assumption) | assumption)
         have q575 : x11_1 < (l1.length : Int) := of_decide_eq_true (by first | (with_reducible assumption) | assumption)
         obtain ⟨ad575, e575, hx575_0⟩ := Kd.at_int HR1.out x11_1 p575 q575
         cases e575
         replace p575 := eq_true p575
         replace q575 := eq_true q575
         go_wp2_with (first | ((with_reducible refine gate_callee (f := 144) rfl ?_); refine goesL_ (some 26) rfl rfl Tryz.func144 (by kernel_rfl) rfl #[.int .i64 (rd l0 x11_1), .int .i64 (rd l1 x11_1)] rfl (by (try simp only [List.map_toArray, List.map_cons, List.map_nil]); first | done | rfl | (simp only [List.length_drop, List.length_take]; rfl)) ?_; (with_reducible refine (cmp_Compare_int.calls (rd l0 x11_1) (rd l1 x11_1) t576 _ A8.out).mono ?_); rintro e w' ⟨rfl, ⟨nd, rfl⟩⟩; refine ⟨_, rfl, ?_⟩))
         go_ret
         exact ⟨by first | rfl | (simp; done) | (simp [*]; done), by repeat (first | exact Drawn0.refl _ | apply Drawn0.step)⟩
       ·rw [if_neg c7] at H
        exact absurd H (by simp)
     ·rw [if_neg c5] at H
      exact absurd H (by simp)
    ·rw [if_neg c4] at H
     exact absurd H (by simp)
   ·rw [if_neg c3] at H
    have c3b0 : decide (x11_1 < (l0.length : Int)) = false := decide_eq_false c3
    clear c3
    by_cases c10 : (l0.length : Int) < (l1.length : Int)
    ·rw [if_pos c10] at H
     have c10b0 : decide ((l0.length : Int) < (l1.length : Int)) = true := decide_eq_true c10
     have c10b1 : decide (l0.length < l1.length) = true := decide_eq_true (Int.ofNat_lt.mp c10)
     clear c10
     obtain rfl := Option.some.inj H
     go_wp2
     go_ret
     exact ⟨by first | rfl | (simp; done) | (simp [*]; done), by repeat (first | exact Drawn0.refl _ | apply Drawn0.step)⟩
    ·rw [if_neg c10] at H
     have c10b0 : decide ((l0.length : Int) < (l1.length : Int)) = false := decide_eq_false c10
     have c10b1 : decide (l0.length < l1.length) = false := decide_eq_false (fun h => c10 (Int.ofNat_lt.mpr h))
     clear c10
     obtain rfl := Option.some.inj H
     go_wp2
     go_ret
     exact ⟨by first | rfl | (simp; done) | (simp [*]; done), by repeat (first | exact Drawn0.refl _ | apply Drawn0.step)⟩
end Go.Proofs.YtnncjnjfdhbddaaGreat.Z
namespace Go.Proofs.YtnncjnjfdhbddaaGreat.Z
open Go.RowKit Go.Proofs.YtnncjnjfdhbddaaGreatW.PrintWords Go.Proofs.YtnncjnjfdhbddaaGreatW.PrintLast Go.Proofs.YtnncjnjfdhbddaaGreatW.PrintMore
attribute [local go_sem] max2_int min2_int max_two min_two max_three min_three max_four min_four
set_option linter.unusedVariables false
set_option linter.unusedSimpArgs false
open Go.Sort (grow alloc_eq_grow grow_grow)
theorem cmpCompare_eq (a b : Int) : cmp_Compare_int.f a b = some (cmpI a b) := by
 unfold cmp_Compare_int.f cmp_isNaN_int.f cmpI
 simp
 by_cases h1 : a < b
 ·simp [h1]
 ·by_cases h2 : b < a
  ·simp [h1, h2]
  ·simp [h1, h2]
theorem compare_l0 (x y : List Int) (hx : x.length ≤ 9223372036854775807) : ∀ (d k i : Nat), x.length - i = d → i ≤ x.length → d < k → (i ≤ y.length) →
  slices_Compare_int_int.l0 k x y x (x.length : Int) (i : Int) = some (lexC cmpI (x.drop i) (y.drop i)) := by
 intro d
 induction d with
 | zero =>
  intro k i hd hi hk hy
  obtain ⟨k, rfl⟩ : ∃ m, k = m + 1 := ⟨k - 1, by omega⟩
  simp only [slices_Compare_int_int.l0]
  rw [if_neg (by omega), lexC_end _ _ _ _ (by omega)]
  by_cases h : i < y.length
  ·rw [if_pos (by omega), if_pos h]
  ·rw [if_neg (by omega), if_neg h]
 | succ d ih =>
  intro k i hd hi hk hy
  obtain ⟨k, rfl⟩ : ∃ m, k = m + 1 := ⟨k - 1, by omega⟩
  have hlt : i < x.length := by omega
  simp only [slices_Compare_int_int.l0]
  rw [if_pos (by omega), if_pos (by omega), if_pos (by omega)]
  by_cases h : i < y.length
  ·rw [if_neg (by omega), if_pos (by omega), cmpCompare_eq]
   simp only [Option.bind_some]
   rw [lexC_drop cmpI 0 x y i hlt h]
   have e1 : rd x (i : Int) = x.getD i 0 := by simp [rd]
   have e2 : rd y (i : Int) = y.getD i 0 := by simp [rd]
   rw [e1, e2]
   by_cases h0 : cmpI (x.getD i 0) (y.getD i 0) = 0
   ·rw [if_pos h0, if_pos h0]
    have := ih k (i + 1) (by omega) (by omega) (by omega) (by omega)
    rw [show wrap64 ((i : Int) + 1) = ((i + 1 : Nat) : Int) by unfold wrap64; omega]
    exact this
   ·rw [if_neg h0, if_neg h0]
  ·rw [if_pos (by omega), lexC_long _ _ _ _ hlt (by omega)]
theorem compare_f (x y : List Int) (hx : x.length ≤ 9223372036854775807) : slices_Compare_int_int.f (x.length + 1) x y = some (cmpL x y) := compare_l0 x y hx x.length (x.length + 1) 0 (by omega) (by omega) (by omega) (by omega)
theorem compare_any (W : World) (x y : List Int) (A0 B0 : Option Addr) (c0 d0 : Nat) (h1 : x.length ≤ c0) (h2 : Kd.C (Kd.int .i64) W A0 x.length x) (h3 : y.length ≤ d0) (h4 : Kd.C (Kd.int .i64) W B0 y.length y) :
  Calls Tryz.prog 110 #[.slice A0 x.length c0, .slice B0 y.length d0] W fun e w' => e = .returned (.int .i64 (cmpL x y)) ∧ Drawn0 W w' :=
 slices_Compare_int_int.calls _ A0 c0 x B0 d0 y _ W h2 h1 h4 h3 (compare_f x y h2.2.1)
set_option maxHeartbeats 1000000 in
theorem compareGames_any (n1 n2 : Int) (A1 : Option Addr) (c1 : Nat) (l1 : List (List Int)) (A2 : Option Addr) (c2 : Nat) (l2 : List (List Int)) (w : World)
  (hr1 : Kd.C (Kd.slice 3 (Kd.int .i64)) w A1 l1.length l1) (hr2 : Kd.C (Kd.slice 3 (Kd.int .i64)) w A2 l2.length l2) :
  Calls Tryz.prog 122 #[.agg #[.int .i64 n1, .slice A1 l1.length c1], .agg #[.int .i64 n2, .slice A2 l2.length c2]] w fun e w' => e = .returned (.int .i64 (cmpLL l1 l2)) ∧ ∃ n os, w' = grow (w.drewN n) os := by
 have hu28 := Tryz.underlying28
 have eg : ∀ args w, (callFunc 110 args).run Tryz.prog w = .ok (.enter 110 args) w := enters_of Tryz.func110 (by kernel_rfl) rfl
 have hC := fun W (hb : Below w.heap.size w W) => compareFunc_any cmpL 110 A1 c1 l1 A2 c2 l2 W eg (Kd.C_below hr1 hb) (Kd.C_below hr2 hb) compare_any
 change ∀ W (hb : Below w.heap.size w W), Calls Tryz.prog 149 _ W fun e w' => e = .returned (.int .i64 (cmpLL l1 l2)) ∧ Drawn0 W w' at hC
 generalize cmpLL l1 l2 = q at hC
 have HC := Aside0.mk hC
 clear hC hr1 hr2 eg
 go_enter Tryz.func122, Tryz.ntmps122
 go_wp2_with (go_at_call 149; refine (HC.out _ ((Below.refl _ _).alloc (Nat.le_refl _) _ |>.alloc (by simp) _)).mono ?_; rintro e w' ⟨rfl, ⟨nd, rfl⟩⟩)
 go_ret
 refine ⟨rfl, nd, #[Obj.cells #[.int .i64 n1, .slice A1 l1.length c1] 28, Obj.cells #[.int .i64 n2, .slice A2 l2.length c2] 28], ?_⟩
 rw [alloc_eq_grow, alloc_eq_grow, grow_grow]
 rfl
end Go.Proofs.YtnncjnjfdhbddaaGreat.Z
namespace Go.Proofs
open Go.Shelf
def Tryz.sortS_ren : Go.Shelf.Ren := ⟨fun | 6 => 137 | 15 => 148 | 14 => 156 | 28 => 172 | 29 => 173 | 20 => 178 | 21 => 179 | 22 => 180 | 23 => 181 | 24 => 182 | 25 => 183 | 26 => 184 | 27 => 185 | 46 => 193 | 47 => 189 | 48 => 190 | 49 => 194 | 50 => 195 | 57 => 197 | n => n, fun | 22 => 22 | 24 => 36 | 25 => 121 | 3 => 3 | 39 => 147 | 0 => 0 | 53 => 167 | 55 => 169 | 4 => 4 | 46 => 161 | 45 => 160 | 50 => 26 | 5 => 5 | 9 => 9 | 66 => 176 | 70 => 180 | 76 => 184 | 77 => 185 | n => n, fun | n => n⟩
theorem Tryz.sortS : Go.Proofs.SlLaysF.n6 Tryz.prog Tryz.sortS_ren := {
 mixed := by kernel_rfl
 f6 := ⟨Tryz.f137.name, by decide, Tryz.func137.trans (congrArg some (by kernel_rfl))⟩
 f14 := ⟨Tryz.f156.name, by decide, Tryz.func156.trans (congrArg some (by kernel_rfl))⟩
 f15 := Tryz.func148.trans (congrArg some (by kernel_rfl))
 f20 := ⟨Tryz.f178.name, by decide, Tryz.func178.trans (congrArg some (by kernel_rfl))⟩
 f21 := ⟨Tryz.f179.name, by decide, Tryz.func179.trans (congrArg some (by kernel_rfl))⟩
 f22 := ⟨Tryz.f180.name, by decide, Tryz.func180.trans (congrArg some (by kernel_rfl))⟩
 f23 := ⟨Tryz.f181.name, by decide, Tryz.func181.trans (congrArg some (by kernel_rfl))⟩
 f24 := ⟨Tryz.f182.name, by decide, Tryz.func182.trans (congrArg some (by kernel_rfl))⟩
 f25 := ⟨Tryz.f183.name, by decide, Tryz.func183.trans (congrArg some (by kernel_rfl))⟩
 f26 := ⟨Tryz.f184.name, by decide, Tryz.func184.trans (congrArg some (by kernel_rfl))⟩
 f27 := ⟨Tryz.f185.name, by decide, Tryz.func185.trans (congrArg some (by kernel_rfl))⟩
 f28 := Tryz.func172.trans (congrArg some (by kernel_rfl))
 f29 := Tryz.func173.trans (congrArg some (by kernel_rfl))
 f46 := ⟨Tryz.f193.name, by decide, Tryz.func193.trans (congrArg some (by kernel_rfl))⟩
 f47 := Tryz.func189.trans (congrArg some (by kernel_rfl))
 f48 := Tryz.func190.trans (congrArg some (by kernel_rfl))
 f49 := ⟨Tryz.f194.name, by decide, Tryz.func194.trans (congrArg some (by kernel_rfl))⟩
 f50 := ⟨Tryz.f195.name, by decide, Tryz.func195.trans (congrArg some (by kernel_rfl))⟩
 f57 := ⟨Tryz.f197.name, by decide, Tryz.func197.trans (congrArg some (by kernel_rfl))⟩
 t0 := Tryz.underlying0
 a0 := Tryz.isAgg0
 z0 := Tryz.sizeOf0
 v0 := Tryz.zeroValue0
 t3 := Tryz.underlying3
 a3 := Tryz.isAgg3
 z3 := Tryz.sizeOf3
 v3 := Tryz.zeroValue3
 t4 := Tryz.underlying4
 a4 := Tryz.isAgg4
 z4 := Tryz.sizeOf4
 v4 := Tryz.zeroValue4
 t5 := Tryz.underlying5
 a5 := Tryz.isAgg5
 z5 := Tryz.sizeOf5
 v5 := Tryz.zeroValue5
 t9 := Tryz.underlying9
 a9 := Tryz.isAgg9
 z9 := Tryz.sizeOf9
 v9 := Tryz.zeroValue9
 t22 := Tryz.underlying22
 a22 := Tryz.isAgg22
 z22 := Tryz.sizeOf22
 v22 := Tryz.zeroValue22
 a24 := Tryz.isAgg36
 z24 := Tryz.sizeOf36
 t25 := Tryz.underlying121
 a25 := Tryz.isAgg121
 z25 := Tryz.sizeOf121
 v25 := Tryz.zeroValue121
 t39 := Tryz.underlying147
 a39 := Tryz.isAgg147
 z39 := Tryz.sizeOf147
 v39 := Tryz.zeroValue147
 t45 := Tryz.underlying160
 a45 := Tryz.isAgg160
 z45 := Tryz.sizeOf160
 v45 := Tryz.zeroValue160
 t46 := Tryz.underlying161
 a46 := Tryz.isAgg161
 z46 := Tryz.sizeOf161
 v46 := Tryz.zeroValue161
 t50 := Tryz.underlying26
 a50 := Tryz.isAgg26
 z50 := Tryz.sizeOf26
 v50 := Tryz.zeroValue26
 t53 := Tryz.underlying167
 a53 := Tryz.isAgg167
 z53 := Tryz.sizeOf167
 v53 := Tryz.zeroValue167
 t55 := Tryz.underlying169
 a55 := Tryz.isAgg169
 z55 := Tryz.sizeOf169
 v55 := Tryz.zeroValue169
 t66 := Tryz.underlying176
 a66 := Tryz.isAgg176
 z66 := Tryz.sizeOf176
 v66 := Tryz.zeroValue176
 t70 := Tryz.underlying180
 a70 := Tryz.isAgg180
 z70 := Tryz.sizeOf180
 v70 := Tryz.zeroValue180
 t76 := Tryz.underlying184
 a76 := Tryz.isAgg184
 z76 := Tryz.sizeOf184
 v76 := Tryz.zeroValue184
 t77 := Tryz.underlying185
 a77 := Tryz.isAgg185
 z77 := Tryz.sizeOf185
 v77 := Tryz.zeroValue185 }
def Tryz.sortG_ren : Go.Shelf.Ren := ⟨fun | 6 => 121 | 15 => 148 | 14 => 147 | 28 => 172 | 29 => 173 | 20 => 164 | 21 => 165 | 22 => 166 | 23 => 167 | 24 => 168 | 25 => 169 | 26 => 170 | 27 => 171 | 46 => 188 | 47 => 189 | 48 => 190 | 49 => 191 | 50 => 192 | 57 => 196 | n => n, fun | 22 => 53 | 24 => 28 | 25 => 127 | 3 => 3 | 39 => 147 | 0 => 0 | 53 => 167 | 55 => 169 | 4 => 4 | 46 => 161 | 45 => 160 | 50 => 26 | 5 => 5 | 9 => 9 | 66 => 176 | 70 => 180 | 76 => 184 | 77 => 185 | n => n, fun | n => n⟩
theorem Tryz.sortG : Go.Proofs.SlLaysF0.n6 Tryz.prog Tryz.sortG_ren := {
 mixed := by kernel_rfl
 f6 := ⟨Tryz.f121.name, by decide, Tryz.func121.trans (congrArg some (by kernel_rfl))⟩
 f14 := ⟨Tryz.f147.name, by decide, Tryz.func147.trans (congrArg some (by kernel_rfl))⟩
 f15 := Tryz.func148.trans (congrArg some (by kernel_rfl))
 f20 := ⟨Tryz.f164.name, by decide, Tryz.func164.trans (congrArg some (by kernel_rfl))⟩
 f21 := ⟨Tryz.f165.name, by decide, Tryz.func165.trans (congrArg some (by kernel_rfl))⟩
 f22 := ⟨Tryz.f166.name, by decide, Tryz.func166.trans (congrArg some (by kernel_rfl))⟩
 f23 := ⟨Tryz.f167.name, by decide, Tryz.func167.trans (congrArg some (by kernel_rfl))⟩
 f24 := ⟨Tryz.f168.name, by decide, Tryz.func168.trans (congrArg some (by kernel_rfl))⟩
 f25 := ⟨Tryz.f169.name, by decide, Tryz.func169.trans (congrArg some (by kernel_rfl))⟩
 f26 := ⟨Tryz.f170.name, by decide, Tryz.func170.trans (congrArg some (by kernel_rfl))⟩
 f27 := ⟨Tryz.f171.name, by decide, Tryz.func171.trans (congrArg some (by kernel_rfl))⟩
 f28 := Tryz.func172.trans (congrArg some (by kernel_rfl))
 f29 := Tryz.func173.trans (congrArg some (by kernel_rfl))
 f46 := ⟨Tryz.f188.name, by decide, Tryz.func188.trans (congrArg some (by kernel_rfl))⟩
 f47 := Tryz.func189.trans (congrArg some (by kernel_rfl))
 f48 := Tryz.func190.trans (congrArg some (by kernel_rfl))
 f49 := ⟨Tryz.f191.name, by decide, Tryz.func191.trans (congrArg some (by kernel_rfl))⟩
 f50 := ⟨Tryz.f192.name, by decide, Tryz.func192.trans (congrArg some (by kernel_rfl))⟩
 f57 := ⟨Tryz.f196.name, by decide, Tryz.func196.trans (congrArg some (by kernel_rfl))⟩
 t0 := Tryz.underlying0
 a0 := Tryz.isAgg0
 z0 := Tryz.sizeOf0
 v0 := Tryz.zeroValue0
 t3 := Tryz.underlying3
 a3 := Tryz.isAgg3
 z3 := Tryz.sizeOf3
 v3 := Tryz.zeroValue3
 t4 := Tryz.underlying4
 a4 := Tryz.isAgg4
 z4 := Tryz.sizeOf4
 v4 := Tryz.zeroValue4
 t5 := Tryz.underlying5
 a5 := Tryz.isAgg5
 z5 := Tryz.sizeOf5
 v5 := Tryz.zeroValue5
 t9 := Tryz.underlying9
 a9 := Tryz.isAgg9
 z9 := Tryz.sizeOf9
 v9 := Tryz.zeroValue9
 t22 := Tryz.underlying53
 a22 := Tryz.isAgg53
 z22 := Tryz.sizeOf53
 v22 := Tryz.zeroValue53
 t25 := Tryz.underlying127
 a25 := Tryz.isAgg127
 z25 := Tryz.sizeOf127
 v25 := Tryz.zeroValue127
 t39 := Tryz.underlying147
 a39 := Tryz.isAgg147
 z39 := Tryz.sizeOf147
 v39 := Tryz.zeroValue147
 t45 := Tryz.underlying160
 a45 := Tryz.isAgg160
 z45 := Tryz.sizeOf160
 v45 := Tryz.zeroValue160
 t46 := Tryz.underlying161
 a46 := Tryz.isAgg161
 z46 := Tryz.sizeOf161
 v46 := Tryz.zeroValue161
 t50 := Tryz.underlying26
 a50 := Tryz.isAgg26
 z50 := Tryz.sizeOf26
 v50 := Tryz.zeroValue26
 t53 := Tryz.underlying167
 a53 := Tryz.isAgg167
 z53 := Tryz.sizeOf167
 v53 := Tryz.zeroValue167
 t55 := Tryz.underlying169
 a55 := Tryz.isAgg169
 z55 := Tryz.sizeOf169
 v55 := Tryz.zeroValue169
 t66 := Tryz.underlying176
 a66 := Tryz.isAgg176
 z66 := Tryz.sizeOf176
 v66 := Tryz.zeroValue176
 t70 := Tryz.underlying180
 a70 := Tryz.isAgg180
 z70 := Tryz.sizeOf180
 v70 := Tryz.zeroValue180
 t76 := Tryz.underlying184
 a76 := Tryz.isAgg184
 z76 := Tryz.sizeOf184
 v76 := Tryz.zeroValue184
 t77 := Tryz.underlying185
 a77 := Tryz.isAgg185
 z77 := Tryz.sizeOf185
 v77 := Tryz.zeroValue185 }
end Go.Proofs
namespace Go.Proofs.YtnncjnjfdhbddaaGreat.Z
open Go.RowKit Go.Proofs.YtnncjnjfdhbddaaGreatW.PrintWords Go.Proofs.YtnncjnjfdhbddaaGreatW.PrintLast Go.Proofs.YtnncjnjfdhbddaaGreatW.PrintMore
attribute [local go_sem] max2_int min2_int max_two min_two max_three min_three max_four min_four
set_option linter.unusedVariables false
set_option linter.unusedSimpArgs false
section
open Go.Sort (grow putRow putCells mapBlock onCells ahead Holds PermIn SortedIn SWO)
variable {α : Type} [Inhabited α]
theorem sw_size (enc : α → Value) (W : World) (g m : Nat) (d : Array α) (os : Array Obj) : W.heap.size ≤ (sortWorld enc W g 0 m d os).heap.size := by
 simp [sortWorld, grow, putRow, mapBlock, ahead]
theorem sw_at (enc : α → Value) (W : World) (g m : Nat) (d : Array α) (os : Array Obj) {cur : Array Value} {e : TypeId} {fr : Nat × Nat} (h : W.heap[g]? = some (.cells cur e fr)) :
  (sortWorld enc W g 0 m d os).heap[g]? = some (.cells (putCells enc 0 d cur) e fr) := by
 have hl : g < W.heap.size := (Array.getElem?_eq_some_iff.1 h).1
 simp only [sortWorld, grow, putRow, mapBlock, ahead]
 rw [Array.getElem?_append_left (by simpa using hl), Array.getElem?_modify, if_pos rfl]
 show Option.map _ W.heap[g]? = _
 rw [h]
 rfl
theorem sw_far (enc : α → Value) (W : World) (g m : Nat) (d : Array α) (os : Array Obj) (k : Nat) (hk : k < W.heap.size) (hne : k ≠ g) : (sortWorld enc W g 0 m d os).heap[k]? = W.heap[k]? := by
 simp only [sortWorld, grow, putRow, mapBlock, ahead]
 rw [Array.getElem?_append_left (by simpa using hk), Array.getElem?_modify, if_neg (fun e => hne e.symm)]
 rfl
theorem sw_grown (enc : α → Value) (W : World) (g m : Nat) (d : Array α) (os : Array Obj) : W.grownBy (sortWorld enc W g 0 m d os) (some g) :=
 ⟨rfl, rfl, rfl, sw_size enc W g m d os, fun i hi hne => sw_far enc W g m d os i hi (fun e => hne (by rw [e]))⟩
theorem putCells_take (enc : α → Value) (d : Array α) (cur : Array Value) (h : d.size ≤ cur.size) : (putCells enc 0 d cur).toList.take d.size = d.toList.map enc := by
 apply List.ext_getElem
 ·simp [putCells, h]
 ·intro i h1 h2
  have hi : i < d.size := by simpa using h2
  simp [putCells, hi]
theorem putCells_size (enc : α → Value) (d : Array α) (cur : Array Value) : (putCells enc 0 d cur).size = cur.size := by simp [putCells]
end
theorem reps_one {β : Type} {R : β → List Value → Prop} {ps : List β} {inner : List Value} (hl : inner.length = ps.length) (h : ∀ (j : Nat) (p : β) (v : Value), ps[j]? = some p → inner[j]? = some v → R p [v]) : Reps R 1 ps inner := by
 refine ⟨by omega, fun j p hj => ?_⟩
 have hjl := (List.getElem?_eq_some_iff.1 hj).1
 rw [Nat.mul_one, List.drop_eq_getElem_cons (by omega)]
 exact h j p _ hj (List.getElem?_eq_getElem (by omega))
theorem reps_one_at {β : Type} {R : β → List Value → Prop} {ps : List β} {inner : List Value} (h : Reps R 1 ps inner) {j : Nat} {p : β} {v : Value} (hp : ps[j]? = some p) (hv : inner[j]? = some v) : R p [v] := by
 have := h.2 j p hp
 obtain ⟨hl, rfl⟩ := List.getElem?_eq_some_iff.1 hv
 rw [Nat.mul_one, List.drop_eq_getElem_cons hl] at this
 exact this
theorem zip_getD (xs : List (List Int)) (i : Nat) (h : i < xs.length) : xs.zipIdx[i]? = some (xs.getD i [], i) := by
 rw [List.getElem?_zipIdx, List.getElem?_eq_getElem h, List.getD_eq_getElem?_getD, List.getElem?_eq_getElem h]
 simp
section
open Go.Sort (grow putRow putCells mapBlock onCells ahead Holds PermIn SortedIn SWO)
theorem swo_of {α : Type} {c : List Int → List Int → Int} (h : Cmp c) (f : α → List Int) : SWO (ltOf fun i j => c (f i) (f j)) where
 irrefl := fun x => by
  have := (h.eq (f x) (f x)).2 rfl
  simp [ltOf, this]
 trans := fun x y z h1 h2 => by
  simp only [ltOf, decide_eq_true_eq] at *
  exact h.trans _ _ _ h1 h2
 ntrans := fun x y z h1 h2 => by
  simp only [ltOf, decide_eq_false_iff_not] at *
  have a := h.le_trans (f z) (f y) (f x) (by simp [leB]; omega) (by simp [leB]; omega)
  simp [leB] at a
  omega
set_option maxHeartbeats 1000000 in
theorem sortSets_pos (W : World) (base : Nat) (g cap : Nat) (xs : List (List Int)) (hx : xs.length ≤ 512) (hpos : 0 < xs.length)
  (hS : Kd.S (Kd.slice 3 (Kd.int .i64)) 36 W base (fun _ => True) (.slice (some ⟨g, 0, none⟩) xs.length cap) xs) :
  Calls Tryz.prog 137 #[.slice (some ⟨g, 0, none⟩) xs.length cap, .func (.func 110) #[] #[]] W fun e w' => e = .returned (.tuple #[]) ∧ Kd.S (Kd.slice 3 (Kd.int .i64)) 36 w' base (fun _ => True) (.slice (some ⟨g, 0, none⟩) xs.length cap) (sortC cmpL xs) ∧ W.grownBy w' (some g) := by
 have eg : ∀ args w, (callFunc 110 args).run Tryz.prog w = .ok (.enter 110 args) w := enters_of Tryz.func110 (by kernel_rfl) rfl
 obtain ⟨f, h0, inner, ho, hr⟩ := hS
 have hlz : xs.zipIdx.length = xs.length := by simp
 rw [hlz] at ho
 obtain ⟨hil, ho2⟩ := ho
 rcases ho2 with ⟨_, hz⟩ | ⟨g', cap', cur, he, hbg, hh, hnc, hcm, hcs, hct⟩
 ·omega
 injection he with he1 _ he2
 injection he1 with he1
 injection he1 with he1
 subst he1 he2
 have hsz1 : (Kd.tag f (Kd.slice 3 (Kd.int .i64))).sz = 1 := rfl
 rw [hsz1, Nat.mul_one] at hil
 rw [hsz1, Nat.mul_one] at hct hcs
 rw [hsz1] at hr
 generalize hn : xs.length = n at *
 haveI : Inhabited (Fin n) := ⟨⟨0, hpos⟩⟩
 have hel : ∀ (i : Nat), i < n → ∃ v, inner[i]? = some v ∧ (Kd.int .i64).R 3 W base (fun k => (True ∧ some k ≠ some g) ∧ f k = i) v (xs.getD i []) := by
  intro i hi
  have hii : i < inner.length := by omega
  have h1 := reps_one_at hr (zip_getD xs i (by omega)) (List.getElem?_eq_getElem hii)
  obtain ⟨v, hv, hR⟩ := h1
  injection hv with hv _
  exact ⟨v, by rw [List.getElem?_eq_getElem hii, hv], hR⟩
 let enc : Fin n → Value := fun i => inner.getD i.val (.bool false)
 let d : Array (Fin n) := Array.ofFn fun i => i
 have hd : d.size = n := by simp [d]
 have hdj : ∀ j (h : j < n), d[j]! = ⟨j, h⟩ := by
  intro j h
  rw [getElem!_pos d j (by omega)]
  simp [d]
 have hgl : g < W.heap.size := blk_lt hh
 have hH : Holds enc W g 0 d := by
  intro j hj
  rw [hd] at hj
  obtain ⟨v, hv, _⟩ := hel j hj
  refine ⟨?_, blk_frozen hh _⟩
  rw [Nat.zero_add, blk_cell hh j, hdj j hj]
  show cur[j]? = some (inner.getD j _)
  rw [List.getD_eq_getElem?_getD, hv, Option.getD_some, ← hv, ← hct]
  rw [List.getElem?_take, if_pos (by omega)]
  simp
 have h1c : OneCell enc := by
  intro i
  obtain ⟨v, hv, hR⟩ := hel i.val i.isLt
  show (inner.getD i.val _).oneCell' = true
  rw [List.getD_eq_getElem?_getD, hv]
  exact (Kd.R_val hR).2
 have hcmp : CmpLays1 Tryz.prog 110 #[] enc (fun i j : Fin n => cmpL (xs.getD i.val []) (xs.getD j.val [])) g 0 d.size W := by
  intro m os dk hs x y
  obtain ⟨vx, hvx, hRx⟩ := hel x.val x.isLt
  obtain ⟨vy, hvy, hRy⟩ := hel y.val y.isLt
  have ex : enc x = vx := by show inner.getD x.val _ = _; rw [List.getD_eq_getElem?_getD, hvx]; rfl
  have ey : enc y = vy := by show inner.getD y.val _ = _; rw [List.getD_eq_getElem?_getD, hvy]; rfl
  rw [ex, ey]
  have hRx2 := Kd.R_step hRx (w1 := sortWorld enc W g 0 m dk os) (fun k hk hlt => sw_far enc W g m dk os k hlt (fun e => hk.1.2 (by rw [e])))
  have hRy2 := Kd.R_step hRy (w1 := sortWorld enc W g 0 m dk os) (fun k hk hlt => sw_far enc W g m dk os k hlt (fun e => hk.1.2 (by rw [e])))
  obtain ⟨Ax, cx, rfl, hlx, hCx⟩ := Kd.R_reads hRx2
  obtain ⟨Ay, cy, rfl, hly, hCy⟩ := Kd.R_reads hRy2
  exact (compare_any _ _ _ _ _ _ _ hlx hCx hly hCy).mono fun e w' ⟨he, hw⟩ => by
   obtain ⟨q, hq⟩ := hw.out
   exact ⟨he, q, #[], by rw [hq, Go.Sort.grow_empty]⟩
 have hs := Any.slices_SortFunc Tryz.sortS enc h1c (fun i j : Fin n => cmpL (xs.getD i.val []) (xs.getD j.val [])) (swo_of Cmp.L fun i : Fin n => xs.getD i.val []) 110 #[] g 0 cap d W eg hcmp hH hgl (by omega)
 rw [hd] at hs
 refine Calls.mono (show Calls Tryz.prog 137 _ W _ from hs) ?_
 rintro e w' ⟨he, d', m, os, hp, hsrt, rfl⟩
 refine ⟨he, ?_, sw_grown enc W g m d' os⟩
 obtain ⟨hp1, _, hp3⟩ := hp
 have hd' : d'.size = n := by rw [hp1, hd]
 have x1 : d'.extract 0 n = d' := (congrArg (fun m => d'.extract 0 m) hd'.symm).trans Array.extract_size
 have x2 : d.extract 0 n = d := (congrArg (fun m => d.extract 0 m) hd.symm).trans Array.extract_size
 rw [x1, x2] at hp3
 have hLn : d'.toList.length = n := by rw [Array.length_toList]; exact hd'
 have hnd : d'.toList.Nodup := hp3.nodup_iff.2 (by
  rw [List.nodup_iff_pairwise_ne, List.pairwise_iff_getElem]
  intro i j hi hj hij
  simp only [d, Array.getElem_toList, Array.getElem_ofFn]
  intro e
  injection e with e
  omega)
 have hdx : d.toList.map (fun i : Fin n => xs.getD i.val []) = xs := by
  apply List.ext_getElem
  ·simp [d, hn]
  ·intro i h1 h2
   simp [d, List.getD_eq_getElem?_getD, h2]
 have hperm : (d'.toList.map fun i : Fin n => xs.getD i.val []).Perm xs := by
  have := hp3.map (fun i : Fin n => xs.getD i.val [])
  rwa [hdx] at this
 have hpw : (d'.toList.map fun i : Fin n => xs.getD i.val []).Pairwise fun a b => leB cmpL a b = true := by
  rw [List.pairwise_map, List.pairwise_iff_getElem]
  intro i j hi hj hij
  have h := hsrt i j (Nat.zero_le _) hij (by omega)
  rw [getElem!_pos d' i (by omega), getElem!_pos d' j (by omega)] at h
  simp only [ltOf, decide_eq_false_iff_not] at h
  simp only [leB, decide_eq_true_eq, Array.getElem_toList]
  exact h
 rw [← sortC_unique Cmp.L hperm hpw]
 refine ⟨fun k => d'.toList.findIdx fun z => z.val == f k, fun _ _ => trivial, d'.toList.map enc, ⟨?_, .inr ⟨g, cap, _, ?_, hbg, sw_at enc W g m d' os hh, ?_, hcm, ?_, ?_⟩⟩, ?_⟩
 ·show _ = _ * 1
  simp
 ·simp [hd']
 ·simp [hd', hnc]
 ·show _ = _ * 1
  rw [putCells_size, hcs, Nat.mul_one]
 ·show List.take (_ * 1) _ = _
  have : (d'.toList.map fun i : Fin n => xs.getD i.val []).zipIdx.length * 1 = d'.size := by simp
  rw [this, putCells_take enc d' cur (by omega)]
 ·show Reps _ 1 _ _
  refine reps_one (by simp) ?_
  intro j p v hj hv
  have hjn : j < n := by
   have := (List.getElem?_eq_some_iff.1 hv).1
   simpa [hd'] using this
  obtain ⟨z, hz⟩ : ∃ z, d'.toList[j]? = some z := ⟨_, List.getElem?_eq_getElem (by omega)⟩
  rw [List.getElem?_zipIdx, List.getElem?_map, hz] at hj
  rw [List.getElem?_map, hz] at hv
  simp only [Option.map_some, Option.some.injEq, Nat.zero_add] at hj hv
  subst hj hv
  obtain ⟨v, hv, hR⟩ := hel z.val z.isLt
  have ez : enc z = v := by show inner.getD z.val _ = _; rw [List.getD_eq_getElem?_getD, hv]; rfl
  refine ⟨v, by rw [ez], ?_⟩
  refine Kd.R_mono (Kd.R_step hR (fun k hk hlt => sw_far enc W g m d' os k hlt (fun e => hk.1.2 (by rw [e])))) ?_
  intro k hk
  refine ⟨⟨trivial, hk.1.2⟩, ?_⟩
  show d'.toList.findIdx (fun y => y.val == f k) = j
  obtain ⟨hjl, hjz⟩ := List.getElem?_eq_some_iff.1 hz
  rw [List.findIdx_eq hjl]
  refine ⟨by rw [hjz, hk.2]; simp, fun i hi => ?_⟩
  have hne : d'.toList[i]'(by omega) ≠ d'.toList[j] := by
   have := List.pairwise_iff_getElem.1 (List.nodup_iff_pairwise_ne.1 hnd) i j (by omega) hjl hi
   exact this
  rw [hk.2, ← hjz]
  simp only [beq_eq_false_iff_ne, ne_eq]
  exact fun e => hne (Fin.ext e)
theorem sortsSets_ok : SortsSets (sortC cmpL) := by
 intro W base v xs hx hS
 obtain ⟨A, c, rfl, _⟩ := Kd.S_reads hS
 rcases Nat.eq_zero_or_pos xs.length with h0 | h0
 ·obtain rfl := List.eq_nil_of_length_eq_zero h0
  refine (show Calls Tryz.prog 137 _ W _ from AnyF.slices_SortFunc_none { Tryz.sortS with } A c (.func (.func 110) #[] #[]) W).mono ?_
  rintro e w' ⟨he, rfl⟩
  exact ⟨he, by rw [show sortC cmpL [] = [] by simp [sortC]]; exact hS, World.grownBy.refl _ _⟩
 ·obtain ⟨g, cap, e, _⟩ := Kd.S_form hS h0
  rw [e] at hS ⊢
  exact (sortSets_pos W base g cap xs hx h0 hS).mono fun _ _ ⟨h1, h2, h3⟩ => ⟨h1, h2, h3⟩
end
end Go.Proofs.YtnncjnjfdhbddaaGreat.Z
namespace Go.Proofs.YtnncjnjfdhbddaaGreat.Z
open Go.RowKit Go.Proofs.YtnncjnjfdhbddaaGreatW.PrintWords Go.Proofs.YtnncjnjfdhbddaaGreatW.PrintLast Go.Proofs.YtnncjnjfdhbddaaGreatW.PrintMore
attribute [local go_sem] max2_int min2_int max_two min_two max_three min_three max_four min_four
set_option linter.unusedVariables false
set_option linter.unusedSimpArgs false
section
open Go.Sort (grow putRow putCells mapBlock onCells ahead Holds PermIn SortedIn SWO flatK HoldsK size_flatK get_flatK)
theorem swo_by {α β : Type} {c : β → β → Int} (h : Cmp c) (f : α → β) : SWO (ltOf fun i j => c (f i) (f j)) where
 irrefl := fun x => by
  have := (h.eq (f x) (f x)).2 rfl
  simp [ltOf, this]
 trans := fun x y z h1 h2 => by
  simp only [ltOf, decide_eq_true_eq] at *
  exact h.trans _ _ _ h1 h2
 ntrans := fun x y z h1 h2 => by
  simp only [ltOf, decide_eq_false_iff_not] at *
  have a := h.le_trans (f z) (f y) (f x) (by simp [leB]; omega) (by simp [leB]; omega)
  simp [leB] at a
  omega
def SortedBy {α β : Type} (c : β → β → Int) (f : α → β) (l l' : List α) : Prop := l'.Perm l ∧ l'.Pairwise fun a b => leB c (f a) (f b) = true
set_option maxHeartbeats 1000000 in
theorem sortGames_pos (W : World) (base : Nat) (g cap : Nat) (xs : List S28) (hx : xs.length ≤ 100000) (hpos : 0 < xs.length)
  (hS : Kd.R k28 28 W base (fun _ => True) (.slice (some ⟨g, 0, none⟩) xs.length cap) xs) :
  Calls Tryz.prog 121 #[.slice (some ⟨g, 0, none⟩) xs.length cap, .func (.func 122) #[] #[]] W fun e w' => e = .returned (.tuple #[]) ∧ ∃ xs', SortedBy cmpLL S28.f1 xs xs' ∧ Kd.R k28 28 w' base (fun _ => True) (.slice (some ⟨g, 0, none⟩) xs.length cap) xs' ∧ W.grownBy w' (some g) := by
 have eg : ∀ args w, (callFunc 122 args).run Tryz.prog w = .ok (.enter 122 args) w := enters_of Tryz.func122 (by kernel_rfl) rfl
 obtain ⟨h0, inner, ⟨hil, ho2⟩, hr⟩ := hS
 rcases ho2 with ⟨_, hz⟩ | ⟨g', cap', cur, he, hbg, hh, hnc, hcm, hcs, hct⟩
 ·omega
 injection he with he1 _ he2
 injection he1 with he1
 injection he1 with he1
 subst he1 he2
 have hsz1 : k28.sz = 2 := rfl
 rw [hsz1] at hil hct hcs hr
 generalize hn : xs.length = n at *
 haveI : Inhabited (Fin n) := ⟨⟨0, hpos⟩⟩
 let enc : Fin n → List Value := fun i => (inner.drop (i.val * 2)).take 2
 have hel : ∀ (i : Fin n), k28.M W base (fun k => True ∧ some k ≠ some g) (xs.getD i.val z28) (enc i) := by
  intro i
  have hi := i.isLt
  exact hr.2 i.val _ (by rw [List.getD_eq_getElem?_getD, List.getElem?_eq_getElem (by omega)]; rfl)
 have hk : ∀ i, (enc i).length = 2 := fun i => k28.K_len (k28.K_of_M (hel i))
 have h1c : ∀ i, ∀ v ∈ enc i, v.oneCell' = true := fun i => k28.K_one (k28.K_of_M (hel i))
 have henc : ∀ (i : Fin n) (c : Nat), c < 2 → (enc i)[c]! = inner[i.val * 2 + c]! := by
  intro i c hc
  have hi := i.isLt
  have := hk i
  rw [getElem!_pos (enc i) c (by omega), getElem!_pos inner _ (by omega)]
  simp [enc]
 let d : Array (Fin n) := Array.ofFn fun i => i
 have hd : d.size = n := by simp [d]
 have hdj : ∀ j (h : j < n), d[j]! = ⟨j, h⟩ := by
  intro j h
  rw [getElem!_pos d j (by omega)]
  simp [d]
 have hgl : g < W.heap.size := blk_lt hh
 have hH : HoldsK enc 2 W g 0 d := by
  intro t ht
  rw [size_flatK, hd] at ht
  refine ⟨?_, blk_frozen hh _⟩
  rw [Nat.zero_add, blk_cell hh t, get_flatK enc 2 d t (by rw [hd]; exact ht), hdj (t / 2) (by omega), henc _ _ (by omega)]
  show cur[t]? = some (inner[t / 2 * 2 + t % 2]!)
  rw [show t / 2 * 2 + t % 2 = t by omega, getElem!_pos inner t (by omega)]
  have e1 : inner[t]? = some inner[t] := List.getElem?_eq_getElem (by omega)
  rw [← e1, ← hct, List.getElem?_take, if_pos ht]
  simp
 have hstep : ∀ (m : Nat) (os : Array Obj) (dk : Array (Fin n)) (i : Fin n), k28.M (sortWorldK enc 2 W g 0 m dk os) base (fun k => True ∧ some k ≠ some g) (xs.getD i.val z28) (enc i) :=
  fun m os dk i => Kd.M_step (hel i) (fun k hk hlt => sw_far id W g m (flatK enc 2 dk) os k hlt (fun e => hk.2 (by rw [e])))
 have hcmp : CmpLays Tryz.prog 122 #[] enc 2 (fun i j : Fin n => cmpLL (xs.getD i.val z28).f1 (xs.getD j.val z28).f1) g 0 d.size W := by
  intro m os dk hs x y
  obtain ⟨A1, c1, e1, l1, r1⟩ := k28_open (k28.K_of_M (hstep m os dk x))
  obtain ⟨A2, c2, e2, l2, r2⟩ := k28_open (k28.K_of_M (hstep m os dk y))
  rw [e1, e2]
  exact compareGames_any _ _ A1 c1 _ A2 c2 _ _ r1 r2
 have hs := AnyQ.slices_SortFunc Tryz.sortG 2 Tryz.isAgg28 Tryz.sizeOf28 enc hk h1c (fun i j : Fin n => cmpLL (xs.getD i.val z28).f1 (xs.getD j.val z28).f1) (swo_by Cmp.LL fun i : Fin n => (xs.getD i.val z28).f1) 122 #[] g 0 cap d W eg hcmp hH hgl (by omega)
 rw [hd] at hs
 refine Calls.mono (show Calls Tryz.prog 121 _ W _ from hs) ?_
 rintro e w' ⟨he, d', m, os, hp, hsrt, rfl⟩
 obtain ⟨hp1, _, hp3⟩ := hp
 have hd' : d'.size = n := by rw [hp1, hd]
 have x1 : d'.extract 0 n = d' := (congrArg (fun m => d'.extract 0 m) hd'.symm).trans Array.extract_size
 have x2 : d.extract 0 n = d := (congrArg (fun m => d.extract 0 m) hd.symm).trans Array.extract_size
 rw [x1, x2] at hp3
 have hdx : d.toList.map (fun i : Fin n => xs.getD i.val z28) = xs := by
  apply List.ext_getElem
  ·simp [d, hn]
  ·intro i h1 h2
   simp [d, List.getD_eq_getElem?_getD, h2]
 refine ⟨he, d'.toList.map (fun i : Fin n => xs.getD i.val z28), ⟨?_, ?_⟩, ⟨fun _ _ => trivial, (flatK enc 2 d').toList, ⟨?_, .inr ⟨g, cap, _, ?_, hbg, sw_at id W g m (flatK enc 2 d') os hh, ?_, hcm, ?_, ?_⟩⟩, ?_⟩, sw_grown id W g m (flatK enc 2 d') os⟩
 ·have := hp3.map (fun i : Fin n => xs.getD i.val z28)
  rwa [hdx] at this
 ·rw [List.pairwise_map, List.pairwise_iff_getElem]
  intro i j hi hj hij
  have h := hsrt i j (Nat.zero_le _) hij (by simpa [hd'] using hj)
  have hj' : j < d'.size := by simpa using hj
  rw [getElem!_pos d' i (by omega), getElem!_pos d' j hj'] at h
  simp only [ltOf, decide_eq_false_iff_not] at h
  simp only [leB, decide_eq_true_eq, Array.getElem_toList]
  exact h
 ·show _ = _ * 2
  simp [hd']
 ·simp [hd']
 ·simp [hd', hnc]
 ·show _ = _ * 2
  rw [putCells_size, hcs]
 ·show List.take (_ * 2) _ = _
  have h1 : (d'.toList.map fun i : Fin n => xs.getD i.val z28).length * 2 = (flatK enc 2 d').size := by simp
  rw [h1, putCells_take id (flatK enc 2 d') cur (by simp [hd', hcs]; omega)]
  simp
 ·show Reps _ 2 _ _
  refine ⟨by simp, fun j p hj => ?_⟩
  rw [List.getElem?_map] at hj
  obtain ⟨z, hz, rfl⟩ := Option.map_eq_some_iff.1 hj
  obtain ⟨hjl, hjz⟩ := List.getElem?_eq_some_iff.1 hz
  have hjn : j < n := by simpa [hd'] using hjl
  have e1 : ((flatK enc 2 d').toList.drop (j * 2)).take 2 = enc z := by
   apply List.ext_getElem
   ·simp [hk, hd']
    omega
   ·intro c h1 h2
    rw [hk] at h2
    have h3 : j * 2 + c < (flatK enc 2 d').size := by simp [hd']; omega
    rw [List.getElem_take, List.getElem_drop, Array.getElem_toList]
    have h4 := get_flatK enc 2 d' (j * 2 + c) (by simpa using h3)
    rw [getElem!_pos (flatK enc 2 d') (j * 2 + c) h3, show (j * 2 + c) / 2 = j by omega, show (j * 2 + c) % 2 = c by omega] at h4
    have h5 : d'[j]! = z := by
     rw [getElem!_pos d' j (by omega), ← hjz]
     simp
    rw [h5, getElem!_pos (enc z) c (by rw [hk]; exact h2)] at h4
    exact h4
  rw [e1]
  exact k28.M_mono (fun k hk => ⟨trivial, hk.2⟩) (hstep m os d' z)
end
end Go.Proofs.YtnncjnjfdhbddaaGreat.Z
