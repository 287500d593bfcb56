/- The law FnExactHarderPuzzle answers true for every puzzle: no condition is laid on the argument. -/
import Derived.Test.YtnncjnjfdhbddaaGreatCHard1
import Derived.Test.YtnncjnjfdhbddaaGreatCHard2
import Derived.Test.YtnncjnjfdhbddaaGreatCHard3
import Derived.Test.YtnncjnjfdhbddaaGreatCHard4
import Derived.Test.YtnncjnjfdhbddaaGreatCHard5
import Derived.Test.YtnncjnjfdhbddaaGreatCHard6
import Derived.Lib.SmallJoins
import Derived.Deep.Slices
import Derived.Test.YtnncjnjfdhbddaaGreatRows
import Derived.WalkKit
import Derived.ProofKit
import Derived.OpenShut
import Derived.ShutString
import Derived.ChangeOld
import Derived.Below
import Derived.SizedLaws
import Derived.Carry
namespace Go.Proofs.YtnncjnjfdhbddaaGreat.Z
open Go.RowKit Go.Proofs.YtnncjnjfdhbddaaGreatW.PrintWords Go.Proofs.YtnncjnjfdhbddaaGreatW.PrintLast Go.Proofs.YtnncjnjfdhbddaaGreatW.PrintMore
attribute [local go_sem] max2_int min2_int max_two min_two max_three min_three max_four min_four
set_option linter.unusedVariables false
set_option linter.unusedSimpArgs false
mutual
def laws_FnExactHarderPuzzle.j0 : Nat → Bool → Bool → Bool → Int → List (S103) → Int → List (S86) → Int → List (S86) → Int → List (S86) → Option (Bool)
 | 0, _, _, _, _, _, _, _, _, _, _, _ => none
 | k + 1, x5, x8, x40, x350000, x350001, x361000, x361001, x366000, x366001, x372000, x372001 => if x40 = true then (some false) else ((laws_toPuzzle.f k x350000 x350001).bind fun bt373 => ((laws_eqPuzzle.f k x366000 x366001 bt373.1 bt373.2).bind fun t377 => (if t377 = true then ((laws_markPuzzle.f k x366000 x366001 1).bind fun bt378 => (if bt378.1 < 0 then (laws_FnExactHarderPuzzle.j1 k x5 true x350000 x350001 x361000 x361001 x372000 x372001) else ((laws_eqPuzzle.f k x372000 x372001 x361000 x361001).bind fun t380 => (if t380 = true then (laws_FnExactHarderPuzzle.j1 k x5 (x8 != x5) x350000 x350001 x361000 x361001 x372000 x372001) else (laws_FnExactHarderPuzzle.j1 k x5 true x350000 x350001 x361000 x361001 x372000 x372001))))) else (some false))))
def laws_FnExactHarderPuzzle.j1 : Nat → Bool → Bool → Int → List (S103) → Int → List (S86) → Int → List (S86) → Option (Bool)
 | 0, _, _, _, _, _, _, _, _ => none
 | k + 1, x5, x61, x350000, x350001, x361000, x361001, x372000, x372001 => if x61 = true then (some false) else ((laws_markPuzzle.f k x372000 x372001 1).bind fun bt381 => ((laws_heldPuzzle.f k x372000 bt381.2 1).bind fun t383 => (if t383 < 0 then (some false) else (if t383 = bt381.1 then ((laws_toPuzzle.f k x350000 x350001).bind fun bt384 => ((impl_HarderPuzzle.f k bt384.1 bt384.2).bind fun bt388 => ((laws_eqPuzzle.f k bt388.1 bt388.2.1 x361000 x361001).bind fun t394 => (if t394 = true then (laws_FnExactHarderPuzzle.j2 k bt381.1 (bt388.2.2 != x5) x372000 bt381.2) else (laws_FnExactHarderPuzzle.j2 k bt381.1 true x372000 bt381.2))))) else (some false)))))
def laws_FnExactHarderPuzzle.j2 : Nat → Int → Bool → Int → List (S86) → Option (Bool)
 | 0, _, _, _, _ => none
 | k + 1, x10, x87, x372000, x372001 => if x87 = true then (some false) else ((laws_heldPuzzle.f k x372000 x372001 1).bind fun t395 => (if t395 < 0 then (some false) else (if t395 = x10 then (some true) else (some false))))
end
def laws_FnExactHarderPuzzle.f (k : Nat) (a0_0 : Int) (l0_1 : List (S103)) : Option (Bool) := (laws_szPuzzle.f a0_0 l0_1 1048576).bind fun t350 => (if t350 < 0 then (some true) else ((laws_toPuzzle.f k a0_0 l0_1).bind fun bt351 => ((spec_HarderPuzzle.f k bt351.1 bt351.2).bind fun bt355 => ((laws_toPuzzle.f k a0_0 l0_1).bind fun bt361 => ((impl_HarderPuzzle.f k bt361.1 bt361.2).bind fun bt366 => ((laws_eqPuzzle.f k bt366.1 bt366.2.1 bt355.1 bt355.2.1).bind fun t372 => (if t372 = true then (laws_FnExactHarderPuzzle.j0 k bt355.2.2 bt366.2.2 (bt366.2.2 != bt355.2.2) a0_0 l0_1 bt355.1 bt355.2.1 bt361.1 bt361.2 bt366.1 bt366.2.1) else (laws_FnExactHarderPuzzle.j0 k bt355.2.2 bt366.2.2 true a0_0 l0_1 bt355.1 bt355.2.1 bt361.1 bt361.2 bt366.1 bt366.2.1))))))))
set_option maxHeartbeats 8000000 in
set_option maxRecDepth 100000 in
theorem laws_FnExactHarderPuzzle.calls (k : Nat) (a0_0 : Int) (A0_1 : Option Addr) (c0_1 : Nat) (l0_1 : List (S103)) (r : Bool) (w : World) (hr0_1 : Kd.C k103 w A0_1 l0_1.length l0_1) (hc0_1 : l0_1.length ≤ c0_1) (h : laws_FnExactHarderPuzzle.f k a0_0 l0_1 = some r) :
  Calls Tryz.prog 5 #[.agg #[.int .i64 a0_0, .slice A0_1 l0_1.length c0_1]] w fun e w' => e = .returned (.bool r) ∧ Below w.heap.size w w' := by
 have hu34 := Tryz.underlying34
 have hu41 := Tryz.underlying41
 have HR0_1 := Aside0.mk hr0_1
 have HC0_1 := Aside0.mk hc0_1
 clear hr0_1 hc0_1
 have HB := Aside0.mk (Below.refl w.heap.size w)
 have H : ((laws_szPuzzle.f a0_0 l0_1 1048576).bind fun t350 => (if t350 < 0 then (some true) else ((laws_toPuzzle.f k a0_0 l0_1).bind fun bt351 => ((spec_HarderPuzzle.f k bt351.1 bt351.2).bind fun bt355 => ((laws_toPuzzle.f k a0_0 l0_1).bind fun bt361 => ((impl_HarderPuzzle.f k bt361.1 bt361.2).bind fun bt366 => ((laws_eqPuzzle.f k bt366.1 bt366.2.1 bt355.1 bt355.2.1).bind fun t372 => (if t372 = true then (laws_FnExactHarderPuzzle.j0 k bt355.2.2 bt366.2.2 (bt366.2.2 != bt355.2.2) a0_0 l0_1 bt355.1 bt355.2.1 bt361.1 bt361.2 bt366.1 bt366.2.1) else (laws_FnExactHarderPuzzle.j0 k bt355.2.2 bt366.2.2 true a0_0 l0_1 bt355.1 bt355.2.1 bt361.1 bt361.2 bt366.1 bt366.2.1))))))))) = some r := h
 clear h
 replace H := Option.bind_eq_some_iff.mp H
 obtain ⟨t350, A20, H⟩ := H
 replace H : (if t350 < 0 then (some true) else ((laws_toPuzzle.f k a0_0 l0_1).bind fun bt351 => ((spec_HarderPuzzle.f k bt351.1 bt351.2).bind fun bt355 => ((laws_toPuzzle.f k a0_0 l0_1).bind fun bt361 => ((impl_HarderPuzzle.f k bt361.1 bt361.2).bind fun bt366 => ((laws_eqPuzzle.f k bt366.1 bt366.2.1 bt355.1 bt355.2.1).bind fun t372 => (if t372 = true then (laws_FnExactHarderPuzzle.j0 k bt355.2.2 bt366.2.2 (bt366.2.2 != bt355.2.2) a0_0 l0_1 bt355.1 bt355.2.1 bt361.1 bt361.2 bt366.1 bt366.2.1) else (laws_FnExactHarderPuzzle.j0 k bt355.2.2 bt366.2.2 true a0_0 l0_1 bt355.1 bt355.2.1 bt361.1 bt361.2 bt366.1 bt366.2.1)))))))) = some r := H
 have A2 := Aside0.mk A20
 clear A20
 by_cases c3 : t350 < 0
 ·rw [if_pos c3] at H
  have c3b0 : decide (t350 < 0) = true := decide_eq_true c3
  clear c3
  obtain rfl := Option.some.inj H
  go_enter Tryz.func5, Tryz.ntmps5
  go_wp2_with (first | ((with_reducible refine gate_dst (N := 1) rfl ?_); refine box_event ?hg (N := 1) ?hd (cs := #[.int .i64 a0_0, .slice A0_1 l0_1.length c0_1]) (t := 34) ?hr ?_; (case hd => rfl); (case hg => rfl); (case hr => first | (go_simp; done) | (go_simp; rfl)); intro gb349 hg w4 hbox hb; have n0_ := Aside0.mk (below_step (by repeat (first | (with_reducible first | exact HB.out | apply below_alloc | apply pw_below_drewN | apply below_drew1) | exact HB.out)) hb); have n1_ := Aside0.mk (hbox); have n2_ := Aside0.mk ((by rw [hg]; exact (below_size (by repeat (first | (with_reducible first | exact HB.out | apply below_alloc | apply pw_below_drewN | apply below_drew1) | exact HB.out))) : w.heap.size ≤ gb349)); have n3_ := Aside0.mk ((by rw [hg]; exact (below_size (by repeat (first | (with_reducible first | exact HB.out | apply below_alloc | apply pw_below_drewN | apply below_drew1) | exact HB.out))) : w.heap.size ≤ gb349)); clear HB; have HB := n0_; have BK349 := n1_; have GW349 := n2_; have GE349 := n3_; clear n0_ n1_ n2_ n3_; clear hb hbox hg; have hcz5_0 : w4.cell? ⟨gb349, 0, none⟩ = some (.int .i64 a0_0) := (blk_cell BK349.out 0).trans rfl; have hcz5_1 : w4.cell? ⟨gb349, 1, none⟩ = some (.slice A0_1 l0_1.length c0_1) := (blk_cell BK349.out 1).trans rfl; have hfz5_0 := blk_frozen BK349.out 0; have hfz5_1 := blk_frozen BK349.out 1) | ((with_reducible refine gate_callee (f := 15) rfl ?_); refine goesL_ (some 16) rfl rfl Tryz.func15 (by kernel_rfl) rfl #[.agg #[.int .i64 a0_0, .slice A0_1 l0_1.length c0_1], .int .i64 1048576] rfl (by (try simp only [List.map_toArray, List.map_cons, List.map_nil]); first | done | rfl | (simp only [List.length_drop, List.length_take]; rfl)) ?_; (with_reducible refine (laws_szPuzzle.calls a0_0 _ _ l0_1 1048576 t350 _ ?side1 ?side2 A2.out).mono ?_); (case side1 => repeat (first | exact (Kd.C_below HR0_1.out HB.out) | (with_reducible refine Kd.C_alloc ?_ _) | (with_reducible refine Kd.C_drewN ?_ _) | (with_reducible refine Kd.C_drew ?_))); (case side2 => exact HC0_1.out); rintro e w6 ⟨rfl, hb⟩; refine ⟨_, rfl, ?_⟩; have n0_ := Aside0.mk (blk_below (g := gb349) (o := .cells #[.int .i64 a0_0, .slice A0_1 l0_1.length c0_1] 34 (0, 0)) (by (with_reducible repeat (first | refine blk_drewN ?_ _ | refine blk_drew ?_ | refine blk_alloc ?_ _)); exact BK349.out) hb); have n1_ := Aside0.mk (below_step (by repeat (first | (with_reducible first | exact HB.out | apply below_alloc | apply pw_below_drewN | apply below_drew1 | refine below_set ?_ GE349.out) | exact HB.out)) hb); clear BK349; clear HB; have BK349 := n0_; have HB := n1_; clear n0_ n1_; (try clear hb); (try clear hb2); (try clear hk); (try clear hi)))
  go_ret
  exact ⟨by first | rfl | (simp [errW_none, errW_some] <;> rfl) | (simp [*, errW_none, errW_some] <;> rfl), by repeat (first | (with_reducible first | exact HB.out | apply below_alloc | apply pw_below_drewN | apply below_drew1 | refine below_set ?_ GE349.out) | exact HB.out)⟩
 ·rw [if_neg c3] at H
  have c3b0 : decide (t350 < 0) = false := decide_eq_false c3
  clear c3
  replace H := Option.bind_eq_some_iff.mp H
  obtain ⟨⟨t351, t352⟩, A70, H⟩ := H
  replace H : ((spec_HarderPuzzle.f k t351 t352).bind fun bt355 => ((laws_toPuzzle.f k a0_0 l0_1).bind fun bt361 => ((impl_HarderPuzzle.f k bt361.1 bt361.2).bind fun bt366 => ((laws_eqPuzzle.f k bt366.1 bt366.2.1 bt355.1 bt355.2.1).bind fun t372 => (if t372 = true then (laws_FnExactHarderPuzzle.j0 k bt355.2.2 bt366.2.2 (bt366.2.2 != bt355.2.2) a0_0 l0_1 bt355.1 bt355.2.1 bt361.1 bt361.2 bt366.1 bt366.2.1) else (laws_FnExactHarderPuzzle.j0 k bt355.2.2 bt366.2.2 true a0_0 l0_1 bt355.1 bt355.2.1 bt361.1 bt361.2 bt366.1 bt366.2.1)))))) = some r := H
  have A7 := Aside0.mk A70
  clear A70
  replace H := Option.bind_eq_some_iff.mp H
  obtain ⟨⟨t355, t356, t359⟩, A80, H⟩ := H
  replace H : ((laws_toPuzzle.f k a0_0 l0_1).bind fun bt361 => ((impl_HarderPuzzle.f k bt361.1 bt361.2).bind fun bt366 => ((laws_eqPuzzle.f k bt366.1 bt366.2.1 t355 t356).bind fun t372 => (if t372 = true then (laws_FnExactHarderPuzzle.j0 k t359 bt366.2.2 (bt366.2.2 != t359) a0_0 l0_1 t355 t356 bt361.1 bt361.2 bt366.1 bt366.2.1) else (laws_FnExactHarderPuzzle.j0 k t359 bt366.2.2 true a0_0 l0_1 t355 t356 bt361.1 bt361.2 bt366.1 bt366.2.1))))) = some r := H
  have A8 := Aside0.mk A80
  clear A80
  replace H := Option.bind_eq_some_iff.mp H
  obtain ⟨⟨t361, t362⟩, A90, H⟩ := H
  replace H : ((impl_HarderPuzzle.f k t361 t362).bind fun bt366 => ((laws_eqPuzzle.f k bt366.1 bt366.2.1 t355 t356).bind fun t372 => (if t372 = true then (laws_FnExactHarderPuzzle.j0 k t359 bt366.2.2 (bt366.2.2 != t359) a0_0 l0_1 t355 t356 t361 t362 bt366.1 bt366.2.1) else (laws_FnExactHarderPuzzle.j0 k t359 bt366.2.2 true a0_0 l0_1 t355 t356 t361 t362 bt366.1 bt366.2.1)))) = some r := H
  have A9 := Aside0.mk A90
  clear A90
  replace H := Option.bind_eq_some_iff.mp H
  obtain ⟨⟨t366, t367, t370⟩, A100, H⟩ := H
  replace H : ((laws_eqPuzzle.f k t366 t367 t355 t356).bind fun t372 => (if t372 = true then (laws_FnExactHarderPuzzle.j0 k t359 t370 (t370 != t359) a0_0 l0_1 t355 t356 t361 t362 t366 t367) else (laws_FnExactHarderPuzzle.j0 k t359 t370 true a0_0 l0_1 t355 t356 t361 t362 t366 t367))) = some r := H
  have A10 := Aside0.mk A100
  clear A100
  have HC11 := Aside0.mk H
  clear H
  go_enter Tryz.func5, Tryz.ntmps5
  go_upto_region 8 with (first | ((with_reducible refine gate_dst (N := 1) rfl ?_); refine box_event ?hg (N := 1) ?hd (cs := #[.int .i64 a0_0, .slice A0_1 l0_1.length c0_1]) (t := 34) ?hr ?_; (case hd => rfl); (case hg => rfl); (case hr => first | (go_simp; done) | (go_simp; rfl)); intro gb349 hg w12 hbox hb; have n0_ := Aside0.mk (below_step (by repeat (first | (with_reducible first | exact HB.out | apply below_alloc | apply pw_below_drewN | apply below_drew1) | exact HB.out)) hb); have n1_ := Aside0.mk (hbox); have n2_ := Aside0.mk ((by rw [hg]; exact (below_size (by repeat (first | (with_reducible first | exact HB.out | apply below_alloc | apply pw_below_drewN | apply below_drew1) | exact HB.out))) : w.heap.size ≤ gb349)); have n3_ := Aside0.mk ((by rw [hg]; exact (below_size (by repeat (first | (with_reducible first | exact HB.out | apply below_alloc | apply pw_below_drewN | apply below_drew1) | exact HB.out))) : w.heap.size ≤ gb349)); clear HB; have HB := n0_; have BK349 := n1_; have GW349 := n2_; have GE349 := n3_; clear n0_ n1_ n2_ n3_; clear hb hbox hg; have hcz13_0 : w12.cell? ⟨gb349, 0, none⟩ = some (.int .i64 a0_0) := (blk_cell BK349.out 0).trans rfl; have hcz13_1 : w12.cell? ⟨gb349, 1, none⟩ = some (.slice A0_1 l0_1.length c0_1) := (blk_cell BK349.out 1).trans rfl; have hfz13_0 := blk_frozen BK349.out 0; have hfz13_1 := blk_frozen BK349.out 1) | ((with_reducible refine gate_callee (f := 15) rfl ?_); refine goesL_ (some 16) rfl rfl Tryz.func15 (by kernel_rfl) rfl #[.agg #[.int .i64 a0_0, .slice A0_1 l0_1.length c0_1], .int .i64 1048576] rfl (by (try simp only [List.map_toArray, List.map_cons, List.map_nil]); first | done | rfl | (simp only [List.length_drop, List.length_take]; rfl)) ?_; (with_reducible refine (laws_szPuzzle.calls a0_0 _ _ l0_1 1048576 t350 _ ?side1 ?side2 A2.out).mono ?_); (case side1 => repeat (first | exact (Kd.C_below HR0_1.out HB.out) | (with_reducible refine Kd.C_alloc ?_ _) | (with_reducible refine Kd.C_drewN ?_ _) | (with_reducible refine Kd.C_drew ?_))); (case side2 => exact HC0_1.out); rintro e w14 ⟨rfl, hb⟩; refine ⟨_, rfl, ?_⟩; have n0_ := Aside0.mk (blk_below (g := gb349) (o := .cells #[.int .i64 a0_0, .slice A0_1 l0_1.length c0_1] 34 (0, 0)) (by (with_reducible repeat (first | refine blk_drewN ?_ _ | refine blk_drew ?_ | refine blk_alloc ?_ _)); exact BK349.out) hb); have n1_ := Aside0.mk (below_step (by repeat (first | (with_reducible first | exact HB.out | apply below_alloc | apply pw_below_drewN | apply below_drew1 | refine below_set ?_ GE349.out) | exact HB.out)) hb); clear BK349; clear HB; have BK349 := n0_; have HB := n1_; clear n0_ n1_; (try clear hb); (try clear hb2); (try clear hk); (try clear hi); have hcz15_0 : w14.cell? ⟨gb349, 0, none⟩ = some (.int .i64 a0_0) := (blk_cell BK349.out 0).trans rfl; have hcz15_1 : w14.cell? ⟨gb349, 1, none⟩ = some (.slice A0_1 l0_1.length c0_1) := (blk_cell BK349.out 1).trans rfl; have hfz15_0 := blk_frozen BK349.out 0; have hfz15_1 := blk_frozen BK349.out 1) | ((with_reducible refine gate_callee (f := 17) rfl ?_); refine goesL_ (some 21) rfl rfl Tryz.func17 (by kernel_rfl) rfl #[.agg #[.int .i64 a0_0, .slice A0_1 l0_1.length c0_1]] rfl (by (try simp only [List.map_toArray, List.map_cons, List.map_nil]); first | done | rfl | (simp only [List.length_drop, List.length_take]; rfl)) ?_; (with_reducible refine (laws_toPuzzle.calls k a0_0 _ _ l0_1 t351 t352 _ ?side1 ?side2 A7.out).mono ?_); (case side1 => repeat (first | exact (Kd.C_below HR0_1.out HB.out) | (with_reducible refine Kd.C_alloc ?_ _) | (with_reducible refine Kd.C_drewN ?_ _) | (with_reducible refine Kd.C_drew ?_))); (case side2 => exact HC0_1.out); rintro e w16 ⟨v353, rfl, ho0, hb⟩; refine ⟨_, rfl, ?_⟩; have n0_ := Aside0.mk (Kd.R_lower ho0 (below_size (by repeat (first | (with_reducible first | exact HB.out | apply below_alloc | apply pw_below_drewN | apply below_drew1 | refine below_set ?_ GE349.out) | exact HB.out)))); have n1_ := Aside0.mk (blk_below (g := gb349) (o := .cells #[.int .i64 a0_0, .slice A0_1 l0_1.length c0_1] 34 (0, 0)) (by (with_reducible repeat (first | refine blk_drewN ?_ _ | refine blk_drew ?_ | refine blk_alloc ?_ _)); exact BK349.out) hb); have n2_ := Aside0.mk (below_step (by repeat (first | (with_reducible first | exact HB.out | apply below_alloc | apply pw_below_drewN | apply below_drew1 | refine below_set ?_ GE349.out) | exact HB.out)) hb); clear BK349; clear HB; have HO354 := n0_; have BK349 := n1_; have HB := n2_; clear n0_ n1_ n2_; (try clear hb); (try clear hb2); (try clear hk); (try clear hi); (try clear ho0); obtain ⟨Ao17, co17, eo17⟩ := Kd.R_slice HO354.out; subst eo17) | ((with_reducible refine gate_callee (f := 24) rfl ?_); refine goesL_ (some 22) rfl rfl Tryz.func24 (by kernel_rfl) rfl #[.agg #[.int .i64 t351, .slice Ao17 t352.length co17]] rfl (by (try simp only [List.map_toArray, List.map_cons, List.map_nil]); first | done | rfl | (simp only [List.length_drop, List.length_take]; rfl)) ?_; (with_reducible refine (spec_HarderPuzzle.calls k t351 _ _ t352 t355 t356 t359 _ ?side1 ?side2 A8.out).mono ?_); (case side1 => repeat (first | exact (Kd.R_reads' HO354.out).2.2 | (with_reducible refine Kd.C_alloc ?_ _) | (with_reducible refine Kd.C_drewN ?_ _) | (with_reducible refine Kd.C_drew ?_))); (case side2 => exact (Kd.R_reads' HO354.out).2.1); rintro e w18 ⟨v357, rfl, ho0, hb⟩; refine ⟨_, rfl, ?_⟩; have n0_ := Aside0.mk (Kd.R_elder' (by (with_reducible repeat (first | apply Kd.R_alloc | apply Kd.R_drewN | apply Kd.R_drew)); exact HO354.out) (Kd.R_base ho0) hb); have n1_ := Aside0.mk (Kd.R_lower (Kd.R_new' ho0 (Kd.R_lt (by (with_reducible repeat (first | apply Kd.R_alloc | apply Kd.R_drewN | apply Kd.R_drew)); exact HO354.out))) (below_size (by repeat (first | (with_reducible first | exact HB.out | apply below_alloc | apply pw_below_drewN | apply below_drew1 | refine below_set ?_ GE349.out) | exact HB.out)))); have n2_ := Aside0.mk (blk_below (g := gb349) (o := .cells #[.int .i64 a0_0, .slice A0_1 l0_1.length c0_1] 34 (0, 0)) (by (with_reducible repeat (first | refine blk_drewN ?_ _ | refine blk_drew ?_ | refine blk_alloc ?_ _)); exact BK349.out) hb); have n3_ := Aside0.mk (below_step (by repeat (first | (with_reducible first | exact HB.out | apply below_alloc | apply pw_below_drewN | apply below_drew1 | refine below_set ?_ GE349.out) | exact HB.out)) hb); clear HO354; clear BK349; clear HB; have HO354 := n0_; have HO358 := n1_; have BK349 := n2_; have HB := n3_; clear n0_ n1_ n2_ n3_; (try clear hb); (try clear hb2); (try clear hk); (try clear hi); (try clear ho0)) | ((with_reducible refine gate_dst (N := 4) rfl ?_); refine box_event ?hg (N := 4) ?hd (cs := #[.int .i64 0, .slice none 0 0]) (t := 41) ?hr ?_; (case hd => rfl); (case hg => rfl); (case hr => first | (go_simp; done) | (go_simp; rfl)); intro gb360 hg w19 hbox hb; have n0_ := Aside0.mk (Kd.R_below (by (with_reducible repeat (first | apply Kd.R_alloc | apply Kd.R_drewN | apply Kd.R_drew)); exact HO354.out) hb); have n1_ := Aside0.mk (Kd.R_below (by (with_reducible repeat (first | apply Kd.R_alloc | apply Kd.R_drewN | apply Kd.R_drew)); exact HO358.out) hb); have n2_ := Aside0.mk (blk_below (g := gb349) (o := .cells #[.int .i64 a0_0, .slice A0_1 l0_1.length c0_1] 34 (0, 0)) (by (with_reducible repeat (first | refine blk_drewN ?_ _ | refine blk_drew ?_ | refine blk_alloc ?_ _)); exact BK349.out) hb); have n3_ := Aside0.mk (below_step (by repeat (first | (with_reducible first | exact HB.out | apply below_alloc | apply pw_below_drewN | apply below_drew1 | refine below_set ?_ GE349.out) | exact HB.out)) hb); have n4_ := Aside0.mk (hbox); have n5_ := Aside0.mk ((by rw [hg]; exact (below_size (by repeat (first | (with_reducible first | exact HB.out | apply below_alloc | apply pw_below_drewN | apply below_drew1 | refine below_set ?_ GE349.out) | exact HB.out))) : w.heap.size ≤ gb360)); have n6_ := Aside0.mk ((by rw [hg]; exact (below_size (by repeat (first | (with_reducible first | exact HB.out | apply below_alloc | apply pw_below_drewN | apply below_drew1 | refine below_set ?_ GE349.out) | exact HB.out))) : w.heap.size ≤ gb360)); have n7_ := Aside0.mk ((by rw [hg]; exact Nat.ne_of_lt (blk_lt (g := gb349) (o := .cells #[.int .i64 a0_0, .slice A0_1 l0_1.length c0_1] 34 (0, 0)) (by (with_reducible repeat (first | refine blk_drewN ?_ _ | refine blk_drew ?_ | refine blk_alloc ?_ _)); exact BK349.out)) : gb349 ≠ gb360)); have n8_ := Aside0.mk ((by rw [hg]; exact Nat.ne_of_gt (blk_lt (g := gb349) (o := .cells #[.int .i64 a0_0, .slice A0_1 l0_1.length c0_1] 34 (0, 0)) (by (with_reducible repeat (first | refine blk_drewN ?_ _ | refine blk_drew ?_ | refine blk_alloc ?_ _)); exact BK349.out)) : gb360 ≠ gb349)); clear HO354; clear HO358; clear BK349; clear HB; have HO354 := n0_; have HO358 := n1_; have BK349 := n2_; have HB := n3_; have BK360 := n4_; have GW360 := n5_; have GE360 := n6_; have NB349_360 := n7_; have NB360_349 := n8_; clear n0_ n1_ n2_ n3_ n4_ n5_ n6_ n7_ n8_; clear hb hbox hg; have hnb20 := NB360_349.out; have hnc20 := NB349_360.out; have hcz21_0 : w19.cell? ⟨gb360, 0, none⟩ = some (.int .i64 0) := (blk_cell BK360.out 0).trans rfl; have hcz21_1 : w19.cell? ⟨gb360, 1, none⟩ = some (.slice none 0 0) := (blk_cell BK360.out 1).trans rfl; have hfz21_0 := blk_frozen BK360.out 0; have hfz21_1 := blk_frozen BK360.out 1; obtain ⟨Ao22, co22, eo22⟩ := Kd.R_slice HO358.out; subst eo22; have hcz23_0 : w19.cell? ⟨gb349, 0, none⟩ = some (.int .i64 a0_0) := (blk_cell BK349.out 0).trans rfl; have hcz23_1 : w19.cell? ⟨gb349, 1, none⟩ = some (.slice A0_1 l0_1.length c0_1) := (blk_cell BK349.out 1).trans rfl; have hfz23_0 := blk_frozen BK349.out 0; have hfz23_1 := blk_frozen BK349.out 1) | ((with_reducible refine gate_callee (f := 17) rfl ?_); refine goesL_ (some 26) rfl rfl Tryz.func17 (by kernel_rfl) rfl #[.agg #[.int .i64 a0_0, .slice A0_1 l0_1.length c0_1]] rfl (by (try simp only [List.map_toArray, List.map_cons, List.map_nil]); first | done | rfl | (simp only [List.length_drop, List.length_take]; rfl)) ?_; (with_reducible refine (laws_toPuzzle.calls k a0_0 _ _ l0_1 t361 t362 _ ?side1 ?side2 A9.out).mono ?_); (case side1 => exact Kd.C_below HR0_1.out (by repeat (first | (with_reducible first | exact HB.out | apply below_alloc | apply pw_below_drewN | apply below_drew1 | refine below_set ?_ GE349.out | refine below_set ?_ GE360.out) | exact HB.out))); (case side2 => exact HC0_1.out); rintro e w24 ⟨v363, rfl, ho0, hb⟩; refine ⟨_, rfl, ?_⟩; have n0_ := Aside0.mk (Kd.R_elder' (by (with_reducible repeat (first | apply Kd.R_alloc | apply Kd.R_drewN | apply Kd.R_drew)); exact (Kd.R_mono (Kd.R_far (p := ⟨gb360, 1, none⟩) (Kd.R_far (p := ⟨gb360, 0, none⟩) (Kd.R_types HO354.out BK360.out (by decide)) (fun _ hk => hk.2) (.int .i64 t355)) (fun _ hk => hk.2) (.slice Ao22 t356.length co22)) (fun _ h_ => h_.1))) (Kd.R_base ho0) hb); have n1_ := Aside0.mk (Kd.R_elder' (by (with_reducible repeat (first | apply Kd.R_alloc | apply Kd.R_drewN | apply Kd.R_drew)); exact (Kd.R_mono (Kd.R_far (p := ⟨gb360, 1, none⟩) (Kd.R_far (p := ⟨gb360, 0, none⟩) (Kd.R_types HO358.out BK360.out (by decide)) (fun _ hk => hk.2) (.int .i64 t355)) (fun _ hk => hk.2) (.slice Ao22 t356.length co22)) (fun _ h_ => h_.1))) (Kd.R_base ho0) hb); have n2_ := Aside0.mk (Kd.R_lower (Kd.R_new' (Kd.R_new' ho0 (Kd.R_lt (by (with_reducible repeat (first | apply Kd.R_alloc | apply Kd.R_drewN | apply Kd.R_drew)); exact (Kd.R_mono (Kd.R_far (p := ⟨gb360, 1, none⟩) (Kd.R_far (p := ⟨gb360, 0, none⟩) (Kd.R_types HO354.out BK360.out (by decide)) (fun _ hk => hk.2) (.int .i64 t355)) (fun _ hk => hk.2) (.slice Ao22 t356.length co22)) (fun _ h_ => h_.1))))) (Kd.R_lt (by (with_reducible repeat (first | apply Kd.R_alloc | apply Kd.R_drewN | apply Kd.R_drew)); exact (Kd.R_mono (Kd.R_far (p := ⟨gb360, 1, none⟩) (Kd.R_far (p := ⟨gb360, 0, none⟩) (Kd.R_types HO358.out BK360.out (by decide)) (fun _ hk => hk.2) (.int .i64 t355)) (fun _ hk => hk.2) (.slice Ao22 t356.length co22)) (fun _ h_ => h_.1))))) (below_size (by repeat (first | (with_reducible first | exact HB.out | apply below_alloc | apply pw_below_drewN | apply below_drew1 | refine below_set ?_ GE349.out | refine below_set ?_ GE360.out) | exact HB.out)))); have n3_ := Aside0.mk (blk_below (g := gb349) (o := .cells #[.int .i64 a0_0, .slice A0_1 l0_1.length c0_1] 34 (0, 0)) (by (with_reducible repeat (first | refine blk_drewN ?_ _ | refine blk_drew ?_ | refine blk_alloc ?_ _)); refine blk_far ?_ NB349_360.out _; (with_reducible repeat (first | refine blk_drewN ?_ _ | refine blk_drew ?_ | refine blk_alloc ?_ _)); refine blk_far ?_ NB349_360.out _; (with_reducible repeat (first | refine blk_drewN ?_ _ | refine blk_drew ?_ | refine blk_alloc ?_ _)); exact BK349.out) hb); have n4_ := Aside0.mk (blk_below (g := gb360) (o := .cells #[.int .i64 t355, .slice Ao22 t356.length co22] 41 (0, 0)) (by (with_reducible repeat (first | refine blk_drewN ?_ _ | refine blk_drew ?_ | refine blk_alloc ?_ _)); refine blk_put (cs := #[.int .i64 t355, .slice none 0 0]) ?_ 1 _ rfl; (with_reducible repeat (first | refine blk_drewN ?_ _ | refine blk_drew ?_ | refine blk_alloc ?_ _)); refine blk_put (cs := #[.int .i64 0, .slice none 0 0]) ?_ 0 _ rfl; (with_reducible repeat (first | refine blk_drewN ?_ _ | refine blk_drew ?_ | refine blk_alloc ?_ _)); exact BK360.out) hb); have n5_ := Aside0.mk (below_step (by repeat (first | (with_reducible first | exact HB.out | apply below_alloc | apply pw_below_drewN | apply below_drew1 | refine below_set ?_ GE349.out | refine below_set ?_ GE360.out) | exact HB.out)) hb); clear HO354; clear HO358; clear BK349; clear BK360; clear HB; have HO354 := n0_; have HO358 := n1_; have HO364 := n2_; have BK349 := n3_; have BK360 := n4_; have HB := n5_; clear n0_ n1_ n2_ n3_ n4_ n5_; (try clear hb); (try clear hb2); (try clear hk); (try clear hi); (try clear ho0)) | ((with_reducible refine gate_dst (N := 6) rfl ?_); refine box_event ?hg (N := 6) ?hd (cs := #[.int .i64 0, .slice none 0 0]) (t := 41) ?hr ?_; (case hd => rfl); (case hg => rfl); (case hr => first | (go_simp; done) | (go_simp; rfl)); intro gb365 hg w25 hbox hb; have n0_ := Aside0.mk (Kd.R_below (by (with_reducible repeat (first | apply Kd.R_alloc | apply Kd.R_drewN | apply Kd.R_drew)); exact HO354.out) hb); have n1_ := Aside0.mk (Kd.R_below (by (with_reducible repeat (first | apply Kd.R_alloc | apply Kd.R_drewN | apply Kd.R_drew)); exact HO358.out) hb); have n2_ := Aside0.mk (Kd.R_below (by (with_reducible repeat (first | apply Kd.R_alloc | apply Kd.R_drewN | apply Kd.R_drew)); exact HO364.out) hb); have n3_ := Aside0.mk (blk_below (g := gb349) (o := .cells #[.int .i64 a0_0, .slice A0_1 l0_1.length c0_1] 34 (0, 0)) (by (with_reducible repeat (first | refine blk_drewN ?_ _ | refine blk_drew ?_ | refine blk_alloc ?_ _)); exact BK349.out) hb); have n4_ := Aside0.mk (blk_below (g := gb360) (o := .cells #[.int .i64 t355, .slice Ao22 t356.length co22] 41 (0, 0)) (by (with_reducible repeat (first | refine blk_drewN ?_ _ | refine blk_drew ?_ | refine blk_alloc ?_ _)); exact BK360.out) hb); have n5_ := Aside0.mk (below_step (by repeat (first | (with_reducible first | exact HB.out | apply below_alloc | apply pw_below_drewN | apply below_drew1 | refine below_set ?_ GE349.out | refine below_set ?_ GE360.out) | exact HB.out)) hb); have n6_ := Aside0.mk (hbox); have n7_ := Aside0.mk ((by rw [hg]; exact (below_size (by repeat (first | (with_reducible first | exact HB.out | apply below_alloc | apply pw_below_drewN | apply below_drew1 | refine below_set ?_ GE349.out | refine below_set ?_ GE360.out) | exact HB.out))) : w.heap.size ≤ gb365)); have n8_ := Aside0.mk ((by rw [hg]; exact (below_size (by repeat (first | (with_reducible first | exact HB.out | apply below_alloc | apply pw_below_drewN | apply below_drew1 | refine below_set ?_ GE349.out | refine below_set ?_ GE360.out) | exact HB.out))) : w.heap.size ≤ gb365)); have n9_ := Aside0.mk ((by rw [hg]; exact Nat.ne_of_lt (blk_lt (g := gb349) (o := .cells #[.int .i64 a0_0, .slice A0_1 l0_1.length c0_1] 34 (0, 0)) (by (with_reducible repeat (first | refine blk_drewN ?_ _ | refine blk_drew ?_ | refine blk_alloc ?_ _)); exact BK349.out)) : gb349 ≠ gb365)); have n10_ := Aside0.mk ((by rw [hg]; exact Nat.ne_of_gt (blk_lt (g := gb349) (o := .cells #[.int .i64 a0_0, .slice A0_1 l0_1.length c0_1] 34 (0, 0)) (by (with_reducible repeat (first | refine blk_drewN ?_ _ | refine blk_drew ?_ | refine blk_alloc ?_ _)); exact BK349.out)) : gb365 ≠ gb349)); have n11_ := Aside0.mk ((by rw [hg]; exact Nat.ne_of_lt (blk_lt (g := gb360) (o := .cells #[.int .i64 t355, .slice Ao22 t356.length co22] 41 (0, 0)) (by (with_reducible repeat (first | refine blk_drewN ?_ _ | refine blk_drew ?_ | refine blk_alloc ?_ _)); exact BK360.out)) : gb360 ≠ gb365)); have n12_ := Aside0.mk ((by rw [hg]; exact Nat.ne_of_gt (blk_lt (g := gb360) (o := .cells #[.int .i64 t355, .slice Ao22 t356.length co22] 41 (0, 0)) (by (with_reducible repeat (first | refine blk_drewN ?_ _ | refine blk_drew ?_ | refine blk_alloc ?_ _)); exact BK360.out)) : gb365 ≠ gb360)); clear HO354; clear HO358; clear HO364; clear BK349; clear BK360; clear HB; have HO354 := n0_; have HO358 := n1_; have HO364 := n2_; have BK349 := n3_; have BK360 := n4_; have HB := n5_; have BK365 := n6_; have GW365 := n7_; have GE365 := n8_; have NB349_365 := n9_; have NB365_349 := n10_; have NB360_365 := n11_; have NB365_360 := n12_; clear n0_ n1_ n2_ n3_ n4_ n5_ n6_ n7_ n8_ n9_ n10_ n11_ n12_; clear hb hbox hg; have hnb26 := NB365_349.out; have hnc26 := NB349_365.out; have hnb27 := NB365_360.out; have hnc27 := NB360_365.out; have hcz28_0 : w25.cell? ⟨gb365, 0, none⟩ = some (.int .i64 0) := (blk_cell BK365.out 0).trans rfl; have hcz28_1 : w25.cell? ⟨gb365, 1, none⟩ = some (.slice none 0 0) := (blk_cell BK365.out 1).trans rfl; have hfz28_0 := blk_frozen BK365.out 0; have hfz28_1 := blk_frozen BK365.out 1; obtain ⟨Ao29, co29, eo29⟩ := Kd.R_slice HO364.out; subst eo29) | ((with_reducible refine gate_callee (f := 25) rfl ?_); refine goesL_ (some 29) rfl rfl Tryz.func25 (by kernel_rfl) rfl #[.agg #[.int .i64 t361, .slice Ao29 t362.length co29]] rfl (by (try simp only [List.map_toArray, List.map_cons, List.map_nil]); first | done | rfl | (simp only [List.length_drop, List.length_take]; rfl)) ?_; (with_reducible refine (impl_HarderPuzzle.calls k t361 _ _ t362 t366 t367 t370 _ ?side1 ?side2 A10.out).mono ?_); (case side1 => refine (Kd.R_reads' (e := 86) (base := w.heap.size) (ok := fun k_ => ((True ∧ some k_ ≠ (.slice Ao17 t352.length co17 : Value).ownBlock) ∧ some k_ ≠ (.slice Ao22 t356.length co22 : Value).ownBlock)) (n := t362.length) (c := co29) ?_).2.2; exact (by (with_reducible repeat (first | apply Kd.R_alloc | apply Kd.R_drewN | apply Kd.R_drew)); exact (Kd.R_mono (Kd.R_far (p := ⟨gb365, 1, none⟩) (Kd.R_far (p := ⟨gb365, 0, none⟩) (Kd.R_types HO364.out BK365.out (by decide)) (fun _ hk => hk.2) (.int .i64 t361)) (fun _ hk => hk.2) (.slice Ao29 t362.length co29)) (fun _ h_ => h_.1)))); (case side2 => exact (Kd.R_reads' HO364.out).2.1); rintro e w30 ⟨v368, rfl, ho0, hb⟩; refine ⟨_, rfl, ?_⟩; have n0_ := Aside0.mk (Kd.R_elder' (by (with_reducible repeat (first | apply Kd.R_alloc | apply Kd.R_drewN | apply Kd.R_drew)); exact (Kd.R_mono (Kd.R_far (p := ⟨gb365, 1, none⟩) (Kd.R_far (p := ⟨gb365, 0, none⟩) (Kd.R_types HO354.out BK365.out (by decide)) (fun _ hk => hk.2) (.int .i64 t361)) (fun _ hk => hk.2) (.slice Ao29 t362.length co29)) (fun _ h_ => h_.1))) (Kd.R_base ho0) hb); have n1_ := Aside0.mk (Kd.R_elder' (by (with_reducible repeat (first | apply Kd.R_alloc | apply Kd.R_drewN | apply Kd.R_drew)); exact (Kd.R_mono (Kd.R_far (p := ⟨gb365, 1, none⟩) (Kd.R_far (p := ⟨gb365, 0, none⟩) (Kd.R_types HO358.out BK365.out (by decide)) (fun _ hk => hk.2) (.int .i64 t361)) (fun _ hk => hk.2) (.slice Ao29 t362.length co29)) (fun _ h_ => h_.1))) (Kd.R_base ho0) hb); have n2_ := Aside0.mk (Kd.R_elder' (by (with_reducible repeat (first | apply Kd.R_alloc | apply Kd.R_drewN | apply Kd.R_drew)); exact (Kd.R_mono (Kd.R_far (p := ⟨gb365, 1, none⟩) (Kd.R_far (p := ⟨gb365, 0, none⟩) (Kd.R_types HO364.out BK365.out (by decide)) (fun _ hk => hk.2) (.int .i64 t361)) (fun _ hk => hk.2) (.slice Ao29 t362.length co29)) (fun _ h_ => h_.1))) (Kd.R_base ho0) hb); have n3_ := Aside0.mk (Kd.R_lower (Kd.R_new' (Kd.R_new' (Kd.R_new' ho0 (Kd.R_lt (by (with_reducible repeat (first | apply Kd.R_alloc | apply Kd.R_drewN | apply Kd.R_drew)); exact (Kd.R_mono (Kd.R_far (p := ⟨gb365, 1, none⟩) (Kd.R_far (p := ⟨gb365, 0, none⟩) (Kd.R_types HO354.out BK365.out (by decide)) (fun _ hk => hk.2) (.int .i64 t361)) (fun _ hk => hk.2) (.slice Ao29 t362.length co29)) (fun _ h_ => h_.1))))) (Kd.R_lt (by (with_reducible repeat (first | apply Kd.R_alloc | apply Kd.R_drewN | apply Kd.R_drew)); exact (Kd.R_mono (Kd.R_far (p := ⟨gb365, 1, none⟩) (Kd.R_far (p := ⟨gb365, 0, none⟩) (Kd.R_types HO358.out BK365.out (by decide)) (fun _ hk => hk.2) (.int .i64 t361)) (fun _ hk => hk.2) (.slice Ao29 t362.length co29)) (fun _ h_ => h_.1))))) (Kd.R_lt (by (with_reducible repeat (first | apply Kd.R_alloc | apply Kd.R_drewN | apply Kd.R_drew)); exact (Kd.R_mono (Kd.R_far (p := ⟨gb365, 1, none⟩) (Kd.R_far (p := ⟨gb365, 0, none⟩) (Kd.R_types HO364.out BK365.out (by decide)) (fun _ hk => hk.2) (.int .i64 t361)) (fun _ hk => hk.2) (.slice Ao29 t362.length co29)) (fun _ h_ => h_.1))))) (below_size (by repeat (first | (with_reducible first | exact HB.out | apply below_alloc | apply pw_below_drewN | apply below_drew1 | refine below_set ?_ GE349.out | refine below_set ?_ GE360.out | refine below_set ?_ GE365.out) | exact HB.out)))); have n4_ := Aside0.mk (blk_below (g := gb349) (o := .cells #[.int .i64 a0_0, .slice A0_1 l0_1.length c0_1] 34 (0, 0)) (by (with_reducible repeat (first | refine blk_drewN ?_ _ | refine blk_drew ?_ | refine blk_alloc ?_ _)); refine blk_far ?_ NB349_365.out _; (with_reducible repeat (first | refine blk_drewN ?_ _ | refine blk_drew ?_ | refine blk_alloc ?_ _)); refine blk_far ?_ NB349_365.out _; (with_reducible repeat (first | refine blk_drewN ?_ _ | refine blk_drew ?_ | refine blk_alloc ?_ _)); exact BK349.out) hb); have n5_ := Aside0.mk (blk_below (g := gb360) (o := .cells #[.int .i64 t355, .slice Ao22 t356.length co22] 41 (0, 0)) (by (with_reducible repeat (first | refine blk_drewN ?_ _ | refine blk_drew ?_ | refine blk_alloc ?_ _)); refine blk_far ?_ NB360_365.out _; (with_reducible repeat (first | refine blk_drewN ?_ _ | refine blk_drew ?_ | refine blk_alloc ?_ _)); refine blk_far ?_ NB360_365.out _; (with_reducible repeat (first | refine blk_drewN ?_ _ | refine blk_drew ?_ | refine blk_alloc ?_ _)); exact BK360.out) hb); have n6_ := Aside0.mk (blk_below (g := gb365) (o := .cells #[.int .i64 t361, .slice Ao29 t362.length co29] 41 (0, 0)) (by (with_reducible repeat (first | refine blk_drewN ?_ _ | refine blk_drew ?_ | refine blk_alloc ?_ _)); refine blk_put (cs := #[.int .i64 t361, .slice none 0 0]) ?_ 1 _ rfl; (with_reducible repeat (first | refine blk_drewN ?_ _ | refine blk_drew ?_ | refine blk_alloc ?_ _)); refine blk_put (cs := #[.int .i64 0, .slice none 0 0]) ?_ 0 _ rfl; (with_reducible repeat (first | refine blk_drewN ?_ _ | refine blk_drew ?_ | refine blk_alloc ?_ _)); exact BK365.out) hb); have n7_ := Aside0.mk (below_step (by repeat (first | (with_reducible first | exact HB.out | apply below_alloc | apply pw_below_drewN | apply below_drew1 | refine below_set ?_ GE349.out | refine below_set ?_ GE360.out | refine below_set ?_ GE365.out) | exact HB.out)) hb); clear HO354; clear HO358; clear HO364; clear BK349; clear BK360; clear BK365; clear HB; have HO354 := n0_; have HO358 := n1_; have HO364 := n2_; have HO369 := n3_; have BK349 := n4_; have BK360 := n5_; have BK365 := n6_; have HB := n7_; clear n0_ n1_ n2_ n3_ n4_ n5_ n6_ n7_; (try clear hb); (try clear hb2); (try clear hk); (try clear hi); (try clear ho0)) | ((with_reducible refine gate_dst (N := 7) rfl ?_); refine box_event ?hg (N := 7) ?hd (cs := #[.int .i64 0, .slice none 0 0]) (t := 41) ?hr ?_; (case hd => rfl); (case hg => rfl); (case hr => first | (go_simp; done) | (go_simp; rfl)); intro gb371 hg w31 hbox hb; have n0_ := Aside0.mk (Kd.R_below (by (with_reducible repeat (first | apply Kd.R_alloc | apply Kd.R_drewN | apply Kd.R_drew)); exact HO354.out) hb); have n1_ := Aside0.mk (Kd.R_below (by (with_reducible repeat (first | apply Kd.R_alloc | apply Kd.R_drewN | apply Kd.R_drew)); exact HO358.out) hb); have n2_ := Aside0.mk (Kd.R_below (by (with_reducible repeat (first | apply Kd.R_alloc | apply Kd.R_drewN | apply Kd.R_drew)); exact HO364.out) hb); have n3_ := Aside0.mk (Kd.R_below (by (with_reducible repeat (first | apply Kd.R_alloc | apply Kd.R_drewN | apply Kd.R_drew)); exact HO369.out) hb); have n4_ := Aside0.mk (blk_below (g := gb349) (o := .cells #[.int .i64 a0_0, .slice A0_1 l0_1.length c0_1] 34 (0, 0)) (by (with_reducible repeat (first | refine blk_drewN ?_ _ | refine blk_drew ?_ | refine blk_alloc ?_ _)); exact BK349.out) hb); have n5_ := Aside0.mk (blk_below (g := gb360) (o := .cells #[.int .i64 t355, .slice Ao22 t356.length co22] 41 (0, 0)) (by (with_reducible repeat (first | refine blk_drewN ?_ _ | refine blk_drew ?_ | refine blk_alloc ?_ _)); exact BK360.out) hb); have n6_ := Aside0.mk (blk_below (g := gb365) (o := .cells #[.int .i64 t361, .slice Ao29 t362.length co29] 41 (0, 0)) (by (with_reducible repeat (first | refine blk_drewN ?_ _ | refine blk_drew ?_ | refine blk_alloc ?_ _)); exact BK365.out) hb); have n7_ := Aside0.mk (below_step (by repeat (first | (with_reducible first | exact HB.out | apply below_alloc | apply pw_below_drewN | apply below_drew1 | refine below_set ?_ GE349.out | refine below_set ?_ GE360.out | refine below_set ?_ GE365.out) | exact HB.out)) hb); have n8_ := Aside0.mk (hbox); have n9_ := Aside0.mk ((by rw [hg]; exact (below_size (by repeat (first | (with_reducible first | exact HB.out | apply below_alloc | apply pw_below_drewN | apply below_drew1 | refine below_set ?_ GE349.out | refine below_set ?_ GE360.out | refine below_set ?_ GE365.out) | exact HB.out))) : w.heap.size ≤ gb371)); have n10_ := Aside0.mk ((by rw [hg]; exact (below_size (by repeat (first | (with_reducible first | exact HB.out | apply below_alloc | apply pw_below_drewN | apply below_drew1 | refine below_set ?_ GE349.out | refine below_set ?_ GE360.out | refine below_set ?_ GE365.out) | exact HB.out))) : w.heap.size ≤ gb371)); have n11_ := Aside0.mk ((by rw [hg]; exact Nat.ne_of_lt (blk_lt (g := gb349) (o := .cells #[.int .i64 a0_0, .slice A0_1 l0_1.length c0_1] 34 (0, 0)) (by (with_reducible repeat (first | refine blk_drewN ?_ _ | refine blk_drew ?_ | refine blk_alloc ?_ _)); exact BK349.out)) : gb349 ≠ gb371)); have n12_ := Aside0.mk ((by rw [hg]; exact Nat.ne_of_gt (blk_lt (g := gb349) (o := .cells #[.int .i64 a0_0, .slice A0_1 l0_1.length c0_1] 34 (0, 0)) (by (with_reducible repeat (first | refine blk_drewN ?_ _ | refine blk_drew ?_ | refine blk_alloc ?_ _)); exact BK349.out)) : gb371 ≠ gb349)); have n13_ := Aside0.mk ((by rw [hg]; exact Nat.ne_of_lt (blk_lt (g := gb360) (o := .cells #[.int .i64 t355, .slice Ao22 t356.length co22] 41 (0, 0)) (by (with_reducible repeat (first | refine blk_drewN ?_ _ | refine blk_drew ?_ | refine blk_alloc ?_ _)); exact BK360.out)) : gb360 ≠ gb371)); have n14_ := Aside0.mk ((by rw [hg]; exact Nat.ne_of_gt (blk_lt (g := gb360) (o := .cells #[.int .i64 t355, .slice Ao22 t356.length co22] 41 (0, 0)) (by (with_reducible repeat (first | refine blk_drewN ?_ _ | refine blk_drew ?_ | refine blk_alloc ?_ _)); exact BK360.out)) : gb371 ≠ gb360)); have n15_ := Aside0.mk ((by rw [hg]; exact Nat.ne_of_lt (blk_lt (g := gb365) (o := .cells #[.int .i64 t361, .slice Ao29 t362.length co29] 41 (0, 0)) (by (with_reducible repeat (first | refine blk_drewN ?_ _ | refine blk_drew ?_ | refine blk_alloc ?_ _)); exact BK365.out)) : gb365 ≠ gb371)); have n16_ := Aside0.mk ((by rw [hg]; exact Nat.ne_of_gt (blk_lt (g := gb365) (o := .cells #[.int .i64 t361, .slice Ao29 t362.length co29] 41 (0, 0)) (by (with_reducible repeat (first | refine blk_drewN ?_ _ | refine blk_drew ?_ | refine blk_alloc ?_ _)); exact BK365.out)) : gb371 ≠ gb365)); clear HO354; clear HO358; clear HO364; clear HO369; clear BK349; clear BK360; clear BK365; clear HB; have HO354 := n0_; have HO358 := n1_; have HO364 := n2_; have HO369 := n3_; have BK349 := n4_; have BK360 := n5_; have BK365 := n6_; have HB := n7_; have BK371 := n8_; have GW371 := n9_; have GE371 := n10_; have NB349_371 := n11_; have NB371_349 := n12_; have NB360_371 := n13_; have NB371_360 := n14_; have NB365_371 := n15_; have NB371_365 := n16_; clear n0_ n1_ n2_ n3_ n4_ n5_ n6_ n7_ n8_ n9_ n10_ n11_ n12_ n13_ n14_ n15_ n16_; clear hb hbox hg; have hnb32 := NB371_349.out; have hnc32 := NB349_371.out; have hnb33 := NB371_360.out; have hnc33 := NB360_371.out; have hnb34 := NB371_365.out; have hnc34 := NB365_371.out; have hcz35_0 : w31.cell? ⟨gb371, 0, none⟩ = some (.int .i64 0) := (blk_cell BK371.out 0).trans rfl; have hcz35_1 : w31.cell? ⟨gb371, 1, none⟩ = some (.slice none 0 0) := (blk_cell BK371.out 1).trans rfl; have hfz35_0 := blk_frozen BK371.out 0; have hfz35_1 := blk_frozen BK371.out 1; obtain ⟨Ao36, co36, eo36⟩ := Kd.R_slice HO369.out; subst eo36))
  (try simp only [Act.put, List.setIfInBounds_toArray, List.set_cons_zero, List.set_cons_succ])
  go_cut [40] (fun v40 wc => ∃ (kq : Nat) (x40_10 : Bool), v40 = .bool x40_10 ∧ Aside0 (laws_FnExactHarderPuzzle.j0 kq t359 t370 x40_10 a0_0 l0_1 t355 t356 t361 t362 t366 t367 = some r) ∧ Aside0 (kq ≤ k) ∧ Aside0 (Kd.R k86 86 wc w.heap.size (fun k_ => some k_ ≠ ((.slice Ao29 t362.length co29) : Value).ownBlock ∧ some k_ ≠ ((.slice Ao36 t367.length co36) : Value).ownBlock) (.slice Ao22 t356.length co22) t356) ∧ Aside0 (Kd.R k86 86 wc w.heap.size (fun k_ => some k_ ≠ ((.slice Ao22 t356.length co22) : Value).ownBlock ∧ some k_ ≠ ((.slice Ao36 t367.length co36) : Value).ownBlock) (.slice Ao29 t362.length co29) t362) ∧ Aside0 (Kd.R k86 86 wc w.heap.size (fun k_ => some k_ ≠ ((.slice Ao22 t356.length co22) : Value).ownBlock ∧ some k_ ≠ ((.slice Ao29 t362.length co29) : Value).ownBlock) (.slice Ao36 t367.length co36) t367) ∧ Aside0 (wc.heap[gb349]? = some (.cells #[.int .i64 a0_0, (.slice A0_1 l0_1.length c0_1)] 34 (0, 0))) ∧ Aside0 (wc.heap[gb360]? = some (.cells #[.int .i64 t355, (.slice Ao22 t356.length co22)] 41 (0, 0))) ∧ Aside0 (wc.heap[gb365]? = some (.cells #[.int .i64 t361, (.slice Ao29 t362.length co29)] 41 (0, 0))) ∧ Aside0 (wc.heap[gb371]? = some (.cells #[.int .i64 t366, (.slice Ao36 t367.length co36)] 41 (0, 0))) ∧ Aside0 (Below w.heap.size w wc))
  case first =>
   have H := HC11.out
   clear HC11
   replace H := Option.bind_eq_some_iff.mp H
   obtain ⟨t372, A370, H⟩ := H
   replace H : (if t372 = true then (laws_FnExactHarderPuzzle.j0 k t359 t370 (t370 != t359) a0_0 l0_1 t355 t356 t361 t362 t366 t367) else (laws_FnExactHarderPuzzle.j0 k t359 t370 true a0_0 l0_1 t355 t356 t361 t362 t366 t367)) = some r := H
   have A37 := Aside0.mk A370
   clear A370
   by_cases c38 : t372 = true
   ·subst c38
    have H1 : (laws_FnExactHarderPuzzle.j0 k t359 t370 (t370 != t359) a0_0 l0_1 t355 t356 t361 t362 t366 t367) = some r := by rw [if_pos rfl] at H; exact H
    clear H
    have H := H1
    clear H1
    have H' := Aside0.mk H
    clear H
    have hnb39 := NB371_349.out
    have hnc39 := NB349_371.out
    have hnb40 := NB371_360.out
    have hnc40 := NB360_371.out
    have hnb41 := NB371_365.out
    have hnc41 := NB365_371.out
    have hcz42_0 : w31.cell? ⟨gb371, 0, none⟩ = some (.int .i64 0) := (blk_cell BK371.out 0).trans rfl
    have hcz42_1 : w31.cell? ⟨gb371, 1, none⟩ = some (.slice none 0 0) := (blk_cell BK371.out 1).trans rfl
    have hfz42_0 := blk_frozen BK371.out 0
    have hfz42_1 := blk_frozen BK371.out 1
    have hnb43 := NB360_349.out
    have hnc43 := NB349_360.out
    have hnb44 := NB360_365.out
    have hnc44 := NB365_360.out
    have hcz45_0 : w31.cell? ⟨gb360, 0, none⟩ = some (.int .i64 t355) := (blk_cell BK360.out 0).trans rfl
    have hcz45_1 : w31.cell? ⟨gb360, 1, none⟩ = some (.slice Ao22 t356.length co22) := (blk_cell BK360.out 1).trans rfl
    have hfz45_0 := blk_frozen BK360.out 0
    have hfz45_1 := blk_frozen BK360.out 1
    go_wp2_with (first | ((with_reducible refine gate_callee (f := 20) rfl ?_); refine goesL_ (some 34) rfl rfl Tryz.func20 (by kernel_rfl) rfl #[.agg #[.int .i64 t366, .slice Ao36 t367.length co36], .agg #[.int .i64 t355, .slice Ao22 t356.length co22]] rfl (by (try simp only [List.map_toArray, List.map_cons, List.map_nil]); first | done | rfl | (simp only [List.length_drop, List.length_take]; rfl)) ?_; (with_reducible refine (laws_eqPuzzle.calls k t366 _ _ t367 t355 _ _ t356 true _ ?side1 ?side2 ?side3 ?side4 A37.out).mono ?_); (case side1 => refine (Kd.R_reads' (e := 86) (base := w.heap.size) (ok := fun k_ => (((True ∧ some k_ ≠ (.slice Ao17 t352.length co17 : Value).ownBlock) ∧ some k_ ≠ (.slice Ao22 t356.length co22 : Value).ownBlock) ∧ some k_ ≠ (.slice Ao29 t362.length co29 : Value).ownBlock)) (n := t367.length) (c := co36) ?_).2.2; exact (by (with_reducible repeat (first | apply Kd.R_alloc | apply Kd.R_drewN | apply Kd.R_drew)); exact (Kd.R_mono (Kd.R_far (p := ⟨gb371, 1, none⟩) (Kd.R_far (p := ⟨gb371, 0, none⟩) (Kd.R_types HO369.out BK371.out (by decide)) (fun _ hk => hk.2) (.int .i64 t366)) (fun _ hk => hk.2) (.slice Ao36 t367.length co36)) (fun _ h_ => h_.1)))); (case side2 => exact (Kd.R_reads' HO369.out).2.1); (case side3 => refine (Kd.R_reads' (e := 86) (base := w.heap.size) (ok := fun k_ => (((True ∧ some k_ ≠ (.slice Ao17 t352.length co17 : Value).ownBlock) ∧ some k_ ≠ (.slice Ao29 t362.length co29 : Value).ownBlock) ∧ some k_ ≠ (.slice Ao36 t367.length co36 : Value).ownBlock)) (n := t356.length) (c := co22) ?_).2.2; exact (by (with_reducible repeat (first | apply Kd.R_alloc | apply Kd.R_drewN | apply Kd.R_drew)); exact (Kd.R_mono (Kd.R_far (p := ⟨gb371, 1, none⟩) (Kd.R_far (p := ⟨gb371, 0, none⟩) (Kd.R_types HO358.out BK371.out (by decide)) (fun _ hk => hk.2) (.int .i64 t366)) (fun _ hk => hk.2) (.slice Ao36 t367.length co36)) (fun _ h_ => h_.1)))); (case side4 => exact (Kd.R_reads' HO358.out).2.1); rintro e w46 ⟨rfl, hb⟩; refine ⟨_, rfl, ?_⟩; have n0_ := Aside0.mk (Kd.R_below (by (with_reducible repeat (first | apply Kd.R_alloc | apply Kd.R_drewN | apply Kd.R_drew)); exact (Kd.R_mono (Kd.R_far (p := ⟨gb371, 1, none⟩) (Kd.R_far (p := ⟨gb371, 0, none⟩) (Kd.R_types HO354.out BK371.out (by decide)) (fun _ hk => hk.2) (.int .i64 t366)) (fun _ hk => hk.2) (.slice Ao36 t367.length co36)) (fun _ h_ => h_.1))) hb); have n1_ := Aside0.mk (Kd.R_below (by (with_reducible repeat (first | apply Kd.R_alloc | apply Kd.R_drewN | apply Kd.R_drew)); exact (Kd.R_mono (Kd.R_far (p := ⟨gb371, 1, none⟩) (Kd.R_far (p := ⟨gb371, 0, none⟩) (Kd.R_types HO358.out BK371.out (by decide)) (fun _ hk => hk.2) (.int .i64 t366)) (fun _ hk => hk.2) (.slice Ao36 t367.length co36)) (fun _ h_ => h_.1))) hb); have n2_ := Aside0.mk (Kd.R_below (by (with_reducible repeat (first | apply Kd.R_alloc | apply Kd.R_drewN | apply Kd.R_drew)); exact (Kd.R_mono (Kd.R_far (p := ⟨gb371, 1, none⟩) (Kd.R_far (p := ⟨gb371, 0, none⟩) (Kd.R_types HO364.out BK371.out (by decide)) (fun _ hk => hk.2) (.int .i64 t366)) (fun _ hk => hk.2) (.slice Ao36 t367.length co36)) (fun _ h_ => h_.1))) hb); have n3_ := Aside0.mk (Kd.R_below (by (with_reducible repeat (first | apply Kd.R_alloc | apply Kd.R_drewN | apply Kd.R_drew)); exact (Kd.R_mono (Kd.R_far (p := ⟨gb371, 1, none⟩) (Kd.R_far (p := ⟨gb371, 0, none⟩) (Kd.R_types HO369.out BK371.out (by decide)) (fun _ hk => hk.2) (.int .i64 t366)) (fun _ hk => hk.2) (.slice Ao36 t367.length co36)) (fun _ h_ => h_.1))) hb); have n4_ := Aside0.mk (blk_below (g := gb349) (o := .cells #[.int .i64 a0_0, .slice A0_1 l0_1.length c0_1] 34 (0, 0)) (by (with_reducible repeat (first | refine blk_drewN ?_ _ | refine blk_drew ?_ | refine blk_alloc ?_ _)); refine blk_far ?_ NB349_371.out _; (with_reducible repeat (first | refine blk_drewN ?_ _ | refine blk_drew ?_ | refine blk_alloc ?_ _)); refine blk_far ?_ NB349_371.out _; (with_reducible repeat (first | refine blk_drewN ?_ _ | refine blk_drew ?_ | refine blk_alloc ?_ _)); exact BK349.out) hb); have n5_ := Aside0.mk (blk_below (g := gb360) (o := .cells #[.int .i64 t355, .slice Ao22 t356.length co22] 41 (0, 0)) (by (with_reducible repeat (first | refine blk_drewN ?_ _ | refine blk_drew ?_ | refine blk_alloc ?_ _)); refine blk_far ?_ NB360_371.out _; (with_reducible repeat (first | refine blk_drewN ?_ _ | refine blk_drew ?_ | refine blk_alloc ?_ _)); refine blk_far ?_ NB360_371.out _; (with_reducible repeat (first | refine blk_drewN ?_ _ | refine blk_drew ?_ | refine blk_alloc ?_ _)); exact BK360.out) hb); have n6_ := Aside0.mk (blk_below (g := gb365) (o := .cells #[.int .i64 t361, .slice Ao29 t362.length co29] 41 (0, 0)) (by (with_reducible repeat (first | refine blk_drewN ?_ _ | refine blk_drew ?_ | refine blk_alloc ?_ _)); refine blk_far ?_ NB365_371.out _; (with_reducible repeat (first | refine blk_drewN ?_ _ | refine blk_drew ?_ | refine blk_alloc ?_ _)); refine blk_far ?_ NB365_371.out _; (with_reducible repeat (first | refine blk_drewN ?_ _ | refine blk_drew ?_ | refine blk_alloc ?_ _)); exact BK365.out) hb); have n7_ := Aside0.mk (blk_below (g := gb371) (o := .cells #[.int .i64 t366, .slice Ao36 t367.length co36] 41 (0, 0)) (by (with_reducible repeat (first | refine blk_drewN ?_ _ | refine blk_drew ?_ | refine blk_alloc ?_ _)); refine blk_put (cs := #[.int .i64 t366, .slice none 0 0]) ?_ 1 _ rfl; (with_reducible repeat (first | refine blk_drewN ?_ _ | refine blk_drew ?_ | refine blk_alloc ?_ _)); refine blk_put (cs := #[.int .i64 0, .slice none 0 0]) ?_ 0 _ rfl; (with_reducible repeat (first | refine blk_drewN ?_ _ | refine blk_drew ?_ | refine blk_alloc ?_ _)); exact BK371.out) hb); have n8_ := Aside0.mk (below_step (by repeat (first | (with_reducible first | exact HB.out | apply below_alloc | apply pw_below_drewN | apply below_drew1 | refine below_set ?_ GE349.out | refine below_set ?_ GE360.out | refine below_set ?_ GE365.out | refine below_set ?_ GE371.out) | exact HB.out)) hb); clear HO354; clear HO358; clear HO364; clear HO369; clear BK349; clear BK360; clear BK365; clear BK371; clear HB; have HO354 := n0_; have HO358 := n1_; have HO364 := n2_; have HO369 := n3_; have BK349 := n4_; have BK360 := n5_; have BK365 := n6_; have BK371 := n7_; have HB := n8_; clear n0_ n1_ n2_ n3_ n4_ n5_ n6_ n7_ n8_; (try clear hb); (try clear hb2); (try clear hk); (try clear hi)))
    go_meet
    case rel => exact ⟨_, ((t370 != t359)), (by first | rfl | (simp; done) | (simp [*]; done)), H', ⟨by first | omega | exact Nat.le_refl _⟩, ⟨by (with_reducible repeat (first | apply Kd.R_alloc | apply Kd.R_drewN | apply Kd.R_drew)); exact Kd.R_mono HO358.out (fun _ hk => ⟨hk.1.2, hk.2⟩)⟩, ⟨by (with_reducible repeat (first | apply Kd.R_alloc | apply Kd.R_drewN | apply Kd.R_drew)); exact Kd.R_mono HO364.out (fun _ hk => ⟨hk.1.2, hk.2⟩)⟩, ⟨by (with_reducible repeat (first | apply Kd.R_alloc | apply Kd.R_drewN | apply Kd.R_drew)); exact Kd.R_mono HO369.out (fun _ hk => ⟨hk.1.2, hk.2⟩)⟩, ⟨by (with_reducible repeat (first | refine blk_drewN ?_ _ | refine blk_drew ?_ | refine blk_alloc ?_ _)); exact BK349.out⟩, ⟨by (with_reducible repeat (first | refine blk_drewN ?_ _ | refine blk_drew ?_ | refine blk_alloc ?_ _)); exact BK360.out⟩, ⟨by (with_reducible repeat (first | refine blk_drewN ?_ _ | refine blk_drew ?_ | refine blk_alloc ?_ _)); exact BK365.out⟩, ⟨by (with_reducible repeat (first | refine blk_drewN ?_ _ | refine blk_drew ?_ | refine blk_alloc ?_ _)); exact BK371.out⟩, ⟨by repeat (first | (with_reducible first | exact HB.out | apply below_alloc | apply pw_below_drewN | apply below_drew1 | refine below_set ?_ GE349.out | refine below_set ?_ GE360.out | refine below_set ?_ GE365.out | refine below_set ?_ GE371.out) | exact HB.out)⟩⟩
   ·replace c38 := Bool.eq_false_iff.mpr c38
    subst c38
    have H1 : (laws_FnExactHarderPuzzle.j0 k t359 t370 true a0_0 l0_1 t355 t356 t361 t362 t366 t367) = some r := by rw [if_neg (show ¬ (false = true) by decide)] at H; exact H
    clear H
    have H := H1
    clear H1
    have H' := Aside0.mk H
    clear H
    have hnb47 := NB371_349.out
    have hnc47 := NB349_371.out
    have hnb48 := NB371_360.out
    have hnc48 := NB360_371.out
    have hnb49 := NB371_365.out
    have hnc49 := NB365_371.out
    have hcz50_0 : w31.cell? ⟨gb371, 0, none⟩ = some (.int .i64 0) := (blk_cell BK371.out 0).trans rfl
    have hcz50_1 : w31.cell? ⟨gb371, 1, none⟩ = some (.slice none 0 0) := (blk_cell BK371.out 1).trans rfl
    have hfz50_0 := blk_frozen BK371.out 0
    have hfz50_1 := blk_frozen BK371.out 1
    have hnb51 := NB360_349.out
    have hnc51 := NB349_360.out
    have hnb52 := NB360_365.out
    have hnc52 := NB365_360.out
    have hcz53_0 : w31.cell? ⟨gb360, 0, none⟩ = some (.int .i64 t355) := (blk_cell BK360.out 0).trans rfl
    have hcz53_1 : w31.cell? ⟨gb360, 1, none⟩ = some (.slice Ao22 t356.length co22) := (blk_cell BK360.out 1).trans rfl
    have hfz53_0 := blk_frozen BK360.out 0
    have hfz53_1 := blk_frozen BK360.out 1
    go_wp2_with (first | ((with_reducible refine gate_callee (f := 20) rfl ?_); refine goesL_ (some 34) rfl rfl Tryz.func20 (by kernel_rfl) rfl #[.agg #[.int .i64 t366, .slice Ao36 t367.length co36], .agg #[.int .i64 t355, .slice Ao22 t356.length co22]] rfl (by (try simp only [List.map_toArray, List.map_cons, List.map_nil]); first | done | rfl | (simp only [List.length_drop, List.length_take]; rfl)) ?_; (with_reducible refine (laws_eqPuzzle.calls k t366 _ _ t367 t355 _ _ t356 false _ ?side1 ?side2 ?side3 ?side4 A37.out).mono ?_); (case side1 => refine (Kd.R_reads' (e := 86) (base := w.heap.size) (ok := fun k_ => (((True ∧ some k_ ≠ (.slice Ao17 t352.length co17 : Value).ownBlock) ∧ some k_ ≠ (.slice Ao22 t356.length co22 : Value).ownBlock) ∧ some k_ ≠ (.slice Ao29 t362.length co29 : Value).ownBlock)) (n := t367.length) (c := co36) ?_).2.2; exact (by (with_reducible repeat (first | apply Kd.R_alloc | apply Kd.R_drewN | apply Kd.R_drew)); exact (Kd.R_mono (Kd.R_far (p := ⟨gb371, 1, none⟩) (Kd.R_far (p := ⟨gb371, 0, none⟩) (Kd.R_types HO369.out BK371.out (by decide)) (fun _ hk => hk.2) (.int .i64 t366)) (fun _ hk => hk.2) (.slice Ao36 t367.length co36)) (fun _ h_ => h_.1)))); (case side2 => exact (Kd.R_reads' HO369.out).2.1); (case side3 => refine (Kd.R_reads' (e := 86) (base := w.heap.size) (ok := fun k_ => (((True ∧ some k_ ≠ (.slice Ao17 t352.length co17 : Value).ownBlock) ∧ some k_ ≠ (.slice Ao29 t362.length co29 : Value).ownBlock) ∧ some k_ ≠ (.slice Ao36 t367.length co36 : Value).ownBlock)) (n := t356.length) (c := co22) ?_).2.2; exact (by (with_reducible repeat (first | apply Kd.R_alloc | apply Kd.R_drewN | apply Kd.R_drew)); exact (Kd.R_mono (Kd.R_far (p := ⟨gb371, 1, none⟩) (Kd.R_far (p := ⟨gb371, 0, none⟩) (Kd.R_types HO358.out BK371.out (by decide)) (fun _ hk => hk.2) (.int .i64 t366)) (fun _ hk => hk.2) (.slice Ao36 t367.length co36)) (fun _ h_ => h_.1)))); (case side4 => exact (Kd.R_reads' HO358.out).2.1); rintro e w54 ⟨rfl, hb⟩; refine ⟨_, rfl, ?_⟩; have n0_ := Aside0.mk (Kd.R_below (by (with_reducible repeat (first | apply Kd.R_alloc | apply Kd.R_drewN | apply Kd.R_drew)); exact (Kd.R_mono (Kd.R_far (p := ⟨gb371, 1, none⟩) (Kd.R_far (p := ⟨gb371, 0, none⟩) (Kd.R_types HO354.out BK371.out (by decide)) (fun _ hk => hk.2) (.int .i64 t366)) (fun _ hk => hk.2) (.slice Ao36 t367.length co36)) (fun _ h_ => h_.1))) hb); have n1_ := Aside0.mk (Kd.R_below (by (with_reducible repeat (first | apply Kd.R_alloc | apply Kd.R_drewN | apply Kd.R_drew)); exact (Kd.R_mono (Kd.R_far (p := ⟨gb371, 1, none⟩) (Kd.R_far (p := ⟨gb371, 0, none⟩) (Kd.R_types HO358.out BK371.out (by decide)) (fun _ hk => hk.2) (.int .i64 t366)) (fun _ hk => hk.2) (.slice Ao36 t367.length co36)) (fun _ h_ => h_.1))) hb); have n2_ := Aside0.mk (Kd.R_below (by (with_reducible repeat (first | apply Kd.R_alloc | apply Kd.R_drewN | apply Kd.R_drew)); exact (Kd.R_mono (Kd.R_far (p := ⟨gb371, 1, none⟩) (Kd.R_far (p := ⟨gb371, 0, none⟩) (Kd.R_types HO364.out BK371.out (by decide)) (fun _ hk => hk.2) (.int .i64 t366)) (fun _ hk => hk.2) (.slice Ao36 t367.length co36)) (fun _ h_ => h_.1))) hb); have n3_ := Aside0.mk (Kd.R_below (by (with_reducible repeat (first | apply Kd.R_alloc | apply Kd.R_drewN | apply Kd.R_drew)); exact (Kd.R_mono (Kd.R_far (p := ⟨gb371, 1, none⟩) (Kd.R_far (p := ⟨gb371, 0, none⟩) (Kd.R_types HO369.out BK371.out (by decide)) (fun _ hk => hk.2) (.int .i64 t366)) (fun _ hk => hk.2) (.slice Ao36 t367.length co36)) (fun _ h_ => h_.1))) hb); have n4_ := Aside0.mk (blk_below (g := gb349) (o := .cells #[.int .i64 a0_0, .slice A0_1 l0_1.length c0_1] 34 (0, 0)) (by (with_reducible repeat (first | refine blk_drewN ?_ _ | refine blk_drew ?_ | refine blk_alloc ?_ _)); refine blk_far ?_ NB349_371.out _; (with_reducible repeat (first | refine blk_drewN ?_ _ | refine blk_drew ?_ | refine blk_alloc ?_ _)); refine blk_far ?_ NB349_371.out _; (with_reducible repeat (first | refine blk_drewN ?_ _ | refine blk_drew ?_ | refine blk_alloc ?_ _)); exact BK349.out) hb); have n5_ := Aside0.mk (blk_below (g := gb360) (o := .cells #[.int .i64 t355, .slice Ao22 t356.length co22] 41 (0, 0)) (by (with_reducible repeat (first | refine blk_drewN ?_ _ | refine blk_drew ?_ | refine blk_alloc ?_ _)); refine blk_far ?_ NB360_371.out _; (with_reducible repeat (first | refine blk_drewN ?_ _ | refine blk_drew ?_ | refine blk_alloc ?_ _)); refine blk_far ?_ NB360_371.out _; (with_reducible repeat (first | refine blk_drewN ?_ _ | refine blk_drew ?_ | refine blk_alloc ?_ _)); exact BK360.out) hb); have n6_ := Aside0.mk (blk_below (g := gb365) (o := .cells #[.int .i64 t361, .slice Ao29 t362.length co29] 41 (0, 0)) (by (with_reducible repeat (first | refine blk_drewN ?_ _ | refine blk_drew ?_ | refine blk_alloc ?_ _)); refine blk_far ?_ NB365_371.out _; (with_reducible repeat (first | refine blk_drewN ?_ _ | refine blk_drew ?_ | refine blk_alloc ?_ _)); refine blk_far ?_ NB365_371.out _; (with_reducible repeat (first | refine blk_drewN ?_ _ | refine blk_drew ?_ | refine blk_alloc ?_ _)); exact BK365.out) hb); have n7_ := Aside0.mk (blk_below (g := gb371) (o := .cells #[.int .i64 t366, .slice Ao36 t367.length co36] 41 (0, 0)) (by (with_reducible repeat (first | refine blk_drewN ?_ _ | refine blk_drew ?_ | refine blk_alloc ?_ _)); refine blk_put (cs := #[.int .i64 t366, .slice none 0 0]) ?_ 1 _ rfl; (with_reducible repeat (first | refine blk_drewN ?_ _ | refine blk_drew ?_ | refine blk_alloc ?_ _)); refine blk_put (cs := #[.int .i64 0, .slice none 0 0]) ?_ 0 _ rfl; (with_reducible repeat (first | refine blk_drewN ?_ _ | refine blk_drew ?_ | refine blk_alloc ?_ _)); exact BK371.out) hb); have n8_ := Aside0.mk (below_step (by repeat (first | (with_reducible first | exact HB.out | apply below_alloc | apply pw_below_drewN | apply below_drew1 | refine below_set ?_ GE349.out | refine below_set ?_ GE360.out | refine below_set ?_ GE365.out | refine below_set ?_ GE371.out) | exact HB.out)) hb); clear HO354; clear HO358; clear HO364; clear HO369; clear BK349; clear BK360; clear BK365; clear BK371; clear HB; have HO354 := n0_; have HO358 := n1_; have HO364 := n2_; have HO369 := n3_; have BK349 := n4_; have BK360 := n5_; have BK365 := n6_; have BK371 := n7_; have HB := n8_; clear n0_ n1_ n2_ n3_ n4_ n5_ n6_ n7_ n8_; (try clear hb); (try clear hb2); (try clear hk); (try clear hi)))
    go_meet
    case rel => exact ⟨_, (true), (by first | rfl | (simp; done) | (simp [*]; done)), H', ⟨by first | omega | exact Nat.le_refl _⟩, ⟨by (with_reducible repeat (first | apply Kd.R_alloc | apply Kd.R_drewN | apply Kd.R_drew)); exact Kd.R_mono HO358.out (fun _ hk => ⟨hk.1.2, hk.2⟩)⟩, ⟨by (with_reducible repeat (first | apply Kd.R_alloc | apply Kd.R_drewN | apply Kd.R_drew)); exact Kd.R_mono HO364.out (fun _ hk => ⟨hk.1.2, hk.2⟩)⟩, ⟨by (with_reducible repeat (first | apply Kd.R_alloc | apply Kd.R_drewN | apply Kd.R_drew)); exact Kd.R_mono HO369.out (fun _ hk => ⟨hk.1.2, hk.2⟩)⟩, ⟨by (with_reducible repeat (first | refine blk_drewN ?_ _ | refine blk_drew ?_ | refine blk_alloc ?_ _)); exact BK349.out⟩, ⟨by (with_reducible repeat (first | refine blk_drewN ?_ _ | refine blk_drew ?_ | refine blk_alloc ?_ _)); exact BK360.out⟩, ⟨by (with_reducible repeat (first | refine blk_drewN ?_ _ | refine blk_drew ?_ | refine blk_alloc ?_ _)); exact BK365.out⟩, ⟨by (with_reducible repeat (first | refine blk_drewN ?_ _ | refine blk_drew ?_ | refine blk_alloc ?_ _)); exact BK371.out⟩, ⟨by repeat (first | (with_reducible first | exact HB.out | apply below_alloc | apply pw_below_drewN | apply below_drew1 | refine below_set ?_ GE349.out | refine below_set ?_ GE360.out | refine below_set ?_ GE365.out | refine below_set ?_ GE371.out) | exact HB.out)⟩⟩
  case rest =>
   clear HC11
   try clear c1
   try clear c2
   try clear p2
   try clear c3
   try clear c3b0
   try clear c4
   try clear c5
   try clear c15
   try clear c17
   try clear c20
   try clear c24
   try clear c25
   try clear c26
   try clear c27
   try clear c32
   try clear c33
   try clear c34
   try clear c38
   try clear c39
   try clear c40
   try clear c41
   try clear c43
   try clear c44
   try clear c47
   try clear c48
   try clear c49
   try clear c51
   try clear c52
   try clear hcz13_0
   try clear hcz13_1
   try clear hcz15_0
   try clear hcz15_1
   try clear hcz21_0
   try clear hcz21_1
   try clear hcz23_0
   try clear hcz23_1
   try clear hcz28_0
   try clear hcz28_1
   try clear hcz35_0
   try clear hcz35_1
   try clear hcz42_0
   try clear hcz42_1
   try clear hcz45_0
   try clear hcz45_1
   try clear hcz50_0
   try clear hcz50_1
   try clear hcz53_0
   try clear hcz53_1
   try clear hcz5_0
   try clear hcz5_1
   try clear hfz13_0
   try clear hfz13_1
   try clear hfz15_0
   try clear hfz15_1
   try clear hfz21_0
   try clear hfz21_1
   try clear hfz23_0
   try clear hfz23_1
   try clear hfz28_0
   try clear hfz28_1
   try clear hfz35_0
   try clear hfz35_1
   try clear hfz42_0
   try clear hfz42_1
   try clear hfz45_0
   try clear hfz45_1
   try clear hfz50_0
   try clear hfz50_1
   try clear hfz53_0
   try clear hfz53_1
   try clear hfz5_0
   try clear hfz5_1
   obtain ⟨kq, x40_10, rfl, HA, HJ10, HO_361001, HO_366001, HO_372001, BK349, BK360, BK365, BK371, HB⟩ := hcut
   cases kq with
   | zero => exact absurd HA.out (by simp [laws_FnExactHarderPuzzle.j0])
   | succ kj10 =>
    have H := HA.out
    clear HA
    simp only [laws_FnExactHarderPuzzle.j0] at H
    by_cases c55 : x40_10 = true
    ·subst c55
     have H1 : (some false) = some r := by rw [if_pos rfl] at H; exact H
     clear H
     have H := H1
     clear H1
     obtain rfl := Option.some.inj H
     go_wp2
     go_ret
     exact ⟨by first | rfl | (simp [errW_none, errW_some] <;> rfl) | (simp [*, errW_none, errW_some] <;> rfl), by repeat (first | (with_reducible first | exact HB.out | apply below_alloc | apply pw_below_drewN | apply below_drew1 | refine below_set ?_ GE349.out | refine below_set ?_ GE360.out | refine below_set ?_ GE365.out | refine below_set ?_ GE371.out) | exact HB.out)⟩
    ·replace c55 := Bool.eq_false_iff.mpr c55
     subst c55
     have H1 : ((laws_toPuzzle.f kj10 a0_0 l0_1).bind fun bt373 => ((laws_eqPuzzle.f kj10 t361 t362 bt373.1 bt373.2).bind fun t377 => (if t377 = true then ((laws_markPuzzle.f kj10 t361 t362 1).bind fun bt378 => (if bt378.1 < 0 then (laws_FnExactHarderPuzzle.j1 kj10 t359 true a0_0 l0_1 t355 t356 t366 t367) else ((laws_eqPuzzle.f kj10 t366 t367 t355 t356).bind fun t380 => (if t380 = true then (laws_FnExactHarderPuzzle.j1 kj10 t359 (t370 != t359) a0_0 l0_1 t355 t356 t366 t367) else (laws_FnExactHarderPuzzle.j1 kj10 t359 true a0_0 l0_1 t355 t356 t366 t367))))) else (some false)))) = some r := by rw [if_neg (show ¬ (false = true) by decide)] at H; exact H
     clear H
     have H := H1
     clear H1
     replace H := Option.bind_eq_some_iff.mp H
     obtain ⟨⟨t373, t374⟩, A560, H⟩ := H
     replace H : ((laws_eqPuzzle.f kj10 t361 t362 t373 t374).bind fun t377 => (if t377 = true then ((laws_markPuzzle.f kj10 t361 t362 1).bind fun bt378 => (if bt378.1 < 0 then (laws_FnExactHarderPuzzle.j1 kj10 t359 true a0_0 l0_1 t355 t356 t366 t367) else ((laws_eqPuzzle.f kj10 t366 t367 t355 t356).bind fun t380 => (if t380 = true then (laws_FnExactHarderPuzzle.j1 kj10 t359 (t370 != t359) a0_0 l0_1 t355 t356 t366 t367) else (laws_FnExactHarderPuzzle.j1 kj10 t359 true a0_0 l0_1 t355 t356 t366 t367))))) else (some false))) = some r := H
     have A56 := Aside0.mk A560
     clear A560
     replace H := Option.bind_eq_some_iff.mp H
     obtain ⟨t377, A570, H⟩ := H
     replace H : (if t377 = true then ((laws_markPuzzle.f kj10 t361 t362 1).bind fun bt378 => (if bt378.1 < 0 then (laws_FnExactHarderPuzzle.j1 kj10 t359 true a0_0 l0_1 t355 t356 t366 t367) else ((laws_eqPuzzle.f kj10 t366 t367 t355 t356).bind fun t380 => (if t380 = true then (laws_FnExactHarderPuzzle.j1 kj10 t359 (t370 != t359) a0_0 l0_1 t355 t356 t366 t367) else (laws_FnExactHarderPuzzle.j1 kj10 t359 true a0_0 l0_1 t355 t356 t366 t367))))) else (some false)) = some r := H
     have A57 := Aside0.mk A570
     clear A570
     by_cases c58 : t377 = true
     ·subst c58
      have H1 : ((laws_markPuzzle.f kj10 t361 t362 1).bind fun bt378 => (if bt378.1 < 0 then (laws_FnExactHarderPuzzle.j1 kj10 t359 true a0_0 l0_1 t355 t356 t366 t367) else ((laws_eqPuzzle.f kj10 t366 t367 t355 t356).bind fun t380 => (if t380 = true then (laws_FnExactHarderPuzzle.j1 kj10 t359 (t370 != t359) a0_0 l0_1 t355 t356 t366 t367) else (laws_FnExactHarderPuzzle.j1 kj10 t359 true a0_0 l0_1 t355 t356 t366 t367))))) = some r := by rw [if_pos rfl] at H; exact H
      clear H
      have H := H1
      clear H1
      replace H := Option.bind_eq_some_iff.mp H
      obtain ⟨⟨t378, t379⟩, A590, H⟩ := H
      replace H : (if t378 < 0 then (laws_FnExactHarderPuzzle.j1 kj10 t359 true a0_0 l0_1 t355 t356 t366 t367) else ((laws_eqPuzzle.f kj10 t366 t367 t355 t356).bind fun t380 => (if t380 = true then (laws_FnExactHarderPuzzle.j1 kj10 t359 (t370 != t359) a0_0 l0_1 t355 t356 t366 t367) else (laws_FnExactHarderPuzzle.j1 kj10 t359 true a0_0 l0_1 t355 t356 t366 t367)))) = some r := H
      have A59 := Aside0.mk A590
      clear A590
      have HC60 := Aside0.mk H
      clear H
      try go_wp2
      have n0_ := Aside0.mk (Kd.R_drew HO_361001.out)
      have n1_ := Aside0.mk (Kd.R_drew HO_366001.out)
      have n2_ := Aside0.mk (Kd.R_drew HO_372001.out)
      have n3_ := Aside0.mk (blk_drew BK349.out)
      have n4_ := Aside0.mk (blk_drew BK360.out)
      have n5_ := Aside0.mk (blk_drew BK365.out)
      have n6_ := Aside0.mk (blk_drew BK371.out)
      have n7_ := Aside0.mk (below_drew1 HB.out)
      clear HO_361001
      clear HO_366001
      clear HO_372001
      clear BK349
      clear BK360
      clear BK365
      clear BK371
      clear HB
      have HO_361001 := n0_
      have HO_366001 := n1_
      have HO_372001 := n2_
      have BK349 := n3_
      have BK360 := n4_
      have BK365 := n5_
      have BK371 := n6_
      have HB := n7_
      clear n0_ n1_ n2_ n3_ n4_ n5_ n6_ n7_
      refine start_ (n := 5) (S := fun w' => w'.cell? ⟨gb365, 0, none⟩ = some (.int .i64 t361) ∧ w'.cell? ⟨gb365, 1, none⟩ = some (.slice Ao29 t362.length co29) ∧ w'.cell? ⟨gb349, 0, none⟩ = some (.int .i64 a0_0) ∧ w'.cell? ⟨gb349, 1, none⟩ = some (.slice A0_1 l0_1.length c0_1)) (ds := []) #[false, false, false, false, false] (by kernel_rfl) rfl rfl ⟨(blk_cell BK365.out 0).trans rfl, (blk_cell BK365.out 1).trans rfl, (blk_cell BK349.out 0).trans rfl, (blk_cell BK349.out 1).trans rfl⟩ (fun hHeld => ?_)
      generalize wc.drew = w61 at HO_361001 HO_366001 HO_372001 BK349 BK360 BK365 BK371 HB hHeld ⊢
      refine take_ (i := 0) (N := some 41) (v := ?_) (a' := ?_) #[true, false, false, false, false] rfl rfl (by kernel_rfl) (fun _ _ _ h => h) (Or.inl ⟨by rfl, ?_⟩) hHeld ?_ ?_
      rotate_left
      ·rintro w' ⟨s0, s1, s2, s3⟩
       go_simp
       with_reducible rfl
      rotate_left
      ·simp only [Act.put, List.setIfInBounds_toArray, List.set_cons_zero, List.set_cons_succ, i64_w, i32_w]
       rfl
      refine take_ (i := 1) (N := some 42) (v := ?_) (a' := ?_) #[true, true, false, false, false] rfl rfl (by kernel_rfl) (fun _ _ _ h => h) (Or.inl ⟨by rfl, ?_⟩) hHeld ?_ ?_
      rotate_left
      ·rintro w' ⟨s0, s1, s2, s3⟩
       go_simp
       with_reducible rfl
      rotate_left
      ·simp only [Act.put, List.setIfInBounds_toArray, List.set_cons_zero, List.set_cons_succ, i64_w, i32_w]
       rfl
      refine one_ (i := 2) (N := some 43) #[true, true, true, false, false] rfl rfl (by kernel_rfl) (by decide) (fun K hK => ?_)
      refine goes_ Tryz.func17 (by kernel_rfl) rfl #[.agg #[.int .i64 a0_0, .slice A0_1 l0_1.length c0_1]] (by rfl) rfl rfl (by (try simp only [List.map_toArray, List.map_cons, List.map_nil]); first | done | rfl | (simp only [List.length_drop, List.length_take]; rfl)) ?_
      with_reducible refine (laws_toPuzzle.calls kj10 a0_0 _ _ l0_1 t373 t374 _ ?side1 ?side2 A56.out).mono ?_
      (case side1 => repeat (first | exact (Kd.C_below HR0_1.out HB.out) | (with_reducible refine Kd.C_alloc ?_ _) | (with_reducible refine Kd.C_drewN ?_ _) | (with_reducible refine Kd.C_drew ?_)))
      (case side2 => exact HC0_1.out)
      rintro e w62 ⟨v375, rfl, ho0, hb⟩
      refine ⟨_, rfl, ?_⟩
      have n0_ := Aside0.mk (Kd.R_elder' (by (with_reducible repeat (first | apply Kd.R_alloc | apply Kd.R_drewN | apply Kd.R_drew)); exact HO_361001.out) (Kd.R_base ho0) hb)
      have n1_ := Aside0.mk (Kd.R_elder' (by (with_reducible repeat (first | apply Kd.R_alloc | apply Kd.R_drewN | apply Kd.R_drew)); exact HO_366001.out) (Kd.R_base ho0) hb)
      have n2_ := Aside0.mk (Kd.R_elder' (by (with_reducible repeat (first | apply Kd.R_alloc | apply Kd.R_drewN | apply Kd.R_drew)); exact HO_372001.out) (Kd.R_base ho0) hb)
      have n3_ := Aside0.mk (Kd.R_lower (Kd.R_new' (Kd.R_new' (Kd.R_new' ho0 (Kd.R_lt (by (with_reducible repeat (first | apply Kd.R_alloc | apply Kd.R_drewN | apply Kd.R_drew)); exact HO_361001.out))) (Kd.R_lt (by (with_reducible repeat (first | apply Kd.R_alloc | apply Kd.R_drewN | apply Kd.R_drew)); exact HO_366001.out))) (Kd.R_lt (by (with_reducible repeat (first | apply Kd.R_alloc | apply Kd.R_drewN | apply Kd.R_drew)); exact HO_372001.out))) (below_size (by repeat (first | (with_reducible first | exact HB.out | apply below_alloc | apply pw_below_drewN | apply below_drew1 | refine below_set ?_ GE349.out | refine below_set ?_ GE360.out | refine below_set ?_ GE365.out | refine below_set ?_ GE371.out) | exact HB.out))))
      have n4_ := Aside0.mk (blk_below (g := gb349) (o := .cells #[.int .i64 a0_0, .slice A0_1 l0_1.length c0_1] 34 (0, 0)) (by (with_reducible repeat (first | refine blk_drewN ?_ _ | refine blk_drew ?_ | refine blk_alloc ?_ _)); exact BK349.out) hb)
      have n5_ := Aside0.mk (blk_below (g := gb360) (o := .cells #[.int .i64 t355, .slice Ao22 t356.length co22] 41 (0, 0)) (by (with_reducible repeat (first | refine blk_drewN ?_ _ | refine blk_drew ?_ | refine blk_alloc ?_ _)); exact BK360.out) hb)
      have n6_ := Aside0.mk (blk_below (g := gb365) (o := .cells #[.int .i64 t361, .slice Ao29 t362.length co29] 41 (0, 0)) (by (with_reducible repeat (first | refine blk_drewN ?_ _ | refine blk_drew ?_ | refine blk_alloc ?_ _)); exact BK365.out) hb)
      have n7_ := Aside0.mk (blk_below (g := gb371) (o := .cells #[.int .i64 t366, .slice Ao36 t367.length co36] 41 (0, 0)) (by (with_reducible repeat (first | refine blk_drewN ?_ _ | refine blk_drew ?_ | refine blk_alloc ?_ _)); exact BK371.out) hb)
      have n8_ := Aside0.mk (below_step (by repeat (first | (with_reducible first | exact HB.out | apply below_alloc | apply pw_below_drewN | apply below_drew1 | refine below_set ?_ GE349.out | refine below_set ?_ GE360.out | refine below_set ?_ GE365.out | refine below_set ?_ GE371.out) | exact HB.out)) hb)
      clear HO_361001
      clear HO_366001
      clear HO_372001
      clear BK349
      clear BK360
      clear BK365
      clear BK371
      clear HB
      have HO_361001 := n0_
      have HO_366001 := n1_
      have HO_372001 := n2_
      have HO376 := n3_
      have BK349 := n4_
      have BK360 := n5_
      have BK365 := n6_
      have BK371 := n7_
      have HB := n8_
      clear n0_ n1_ n2_ n3_ n4_ n5_ n6_ n7_ n8_
      (try clear hb)
      (try clear hb2)
      (try clear hk)
      (try clear hi)
      (try clear ho0)
      obtain ⟨Ao63, co63, eo63⟩ := Kd.R_slice HO376.out
      (first | subst eo63 | (injection eo63 with f1_ f2_ f3_; have f4_ := f1_.symm; have f5_ := f3_.symm; clear f1_ f2_ f3_; subst f4_; subst f5_))
      refine hK.out _ _ ⟨(blk_cell BK365.out 0).trans rfl, (blk_cell BK365.out 1).trans rfl, (blk_cell BK349.out 0).trans rfl, (blk_cell BK349.out 1).trans rfl⟩ (fun hHeld => ?_)
      clear hK K
      refine norm_ (a' := ?_) ?_ ?_
      rotate_left
      ·show Act.put _ (some 43) _ = _
       simp only [Act.put, List.setIfInBounds_toArray, List.set_cons_zero, List.set_cons_succ, i64_w, i32_w]
       rfl
      refine one_ (i := 3) (N := some 44) #[true, true, true, true, false] rfl rfl (by kernel_rfl) (by decide) (fun K hK => ?_)
      refine goes_ Tryz.func20 (by kernel_rfl) rfl #[.agg #[.int .i64 t361, .slice Ao29 t362.length co29], .agg #[.int .i64 t373, .slice Ao63 t374.length co63]] (by rfl) rfl rfl (by (try simp only [List.map_toArray, List.map_cons, List.map_nil]); first | done | rfl | (simp only [List.length_drop, List.length_take]; rfl)) ?_
      with_reducible refine (laws_eqPuzzle.calls kj10 t361 _ _ t362 t373 _ _ t374 true _ ?side1 ?side2 ?side3 ?side4 A57.out).mono ?_
      (case side1 => repeat (first | exact (Kd.R_reads' HO_366001.out).2.2 | (with_reducible refine Kd.C_alloc ?_ _) | (with_reducible refine Kd.C_drewN ?_ _) | (with_reducible refine Kd.C_drew ?_)))
      (case side2 => exact (Kd.R_reads' HO_366001.out).2.1)
      (case side3 => repeat (first | exact (Kd.R_reads' HO376.out).2.2 | (with_reducible refine Kd.C_alloc ?_ _) | (with_reducible refine Kd.C_drewN ?_ _) | (with_reducible refine Kd.C_drew ?_)))
      (case side4 => exact (Kd.R_reads' HO376.out).2.1)
      rintro e w64 ⟨rfl, hb⟩
      refine ⟨_, rfl, ?_⟩
      have n0_ := Aside0.mk (Kd.R_below (by (with_reducible repeat (first | apply Kd.R_alloc | apply Kd.R_drewN | apply Kd.R_drew)); exact HO_361001.out) hb)
      have n1_ := Aside0.mk (Kd.R_below (by (with_reducible repeat (first | apply Kd.R_alloc | apply Kd.R_drewN | apply Kd.R_drew)); exact HO_366001.out) hb)
      have n2_ := Aside0.mk (Kd.R_below (by (with_reducible repeat (first | apply Kd.R_alloc | apply Kd.R_drewN | apply Kd.R_drew)); exact HO_372001.out) hb)
      have n3_ := Aside0.mk (Kd.R_below (by (with_reducible repeat (first | apply Kd.R_alloc | apply Kd.R_drewN | apply Kd.R_drew)); exact HO376.out) hb)
      have n4_ := Aside0.mk (blk_below (g := gb349) (o := .cells #[.int .i64 a0_0, .slice A0_1 l0_1.length c0_1] 34 (0, 0)) (by (with_reducible repeat (first | refine blk_drewN ?_ _ | refine blk_drew ?_ | refine blk_alloc ?_ _)); exact BK349.out) hb)
      have n5_ := Aside0.mk (blk_below (g := gb360) (o := .cells #[.int .i64 t355, .slice Ao22 t356.length co22] 41 (0, 0)) (by (with_reducible repeat (first | refine blk_drewN ?_ _ | refine blk_drew ?_ | refine blk_alloc ?_ _)); exact BK360.out) hb)
      have n6_ := Aside0.mk (blk_below (g := gb365) (o := .cells #[.int .i64 t361, .slice Ao29 t362.length co29] 41 (0, 0)) (by (with_reducible repeat (first | refine blk_drewN ?_ _ | refine blk_drew ?_ | refine blk_alloc ?_ _)); exact BK365.out) hb)
      have n7_ := Aside0.mk (blk_below (g := gb371) (o := .cells #[.int .i64 t366, .slice Ao36 t367.length co36] 41 (0, 0)) (by (with_reducible repeat (first | refine blk_drewN ?_ _ | refine blk_drew ?_ | refine blk_alloc ?_ _)); exact BK371.out) hb)
      have n8_ := Aside0.mk (below_step (by repeat (first | (with_reducible first | exact HB.out | apply below_alloc | apply pw_below_drewN | apply below_drew1 | refine below_set ?_ GE349.out | refine below_set ?_ GE360.out | refine below_set ?_ GE365.out | refine below_set ?_ GE371.out) | exact HB.out)) hb)
      clear HO_361001
      clear HO_366001
      clear HO_372001
      clear HO376
      clear BK349
      clear BK360
      clear BK365
      clear BK371
      clear HB
      have HO_361001 := n0_
      have HO_366001 := n1_
      have HO_372001 := n2_
      have HO376 := n3_
      have BK349 := n4_
      have BK360 := n5_
      have BK365 := n6_
      have BK371 := n7_
      have HB := n8_
      clear n0_ n1_ n2_ n3_ n4_ n5_ n6_ n7_ n8_
      (try clear hb)
      (try clear hb2)
      (try clear hk)
      (try clear hi)
      refine hK.out _ _ ⟨(blk_cell BK365.out 0).trans rfl, (blk_cell BK365.out 1).trans rfl, (blk_cell BK349.out 0).trans rfl, (blk_cell BK349.out 1).trans rfl⟩ (fun hHeld => ?_)
      clear hK K
      refine norm_ (a' := ?_) ?_ ?_
      rotate_left
      ·show Act.put _ (some 44) _ = _
       simp only [Act.put, List.setIfInBounds_toArray, List.set_cons_zero, List.set_cons_succ, i64_w, i32_w]
       rfl
      refine pure_ (i := 4) (N := some 45) (v := ?_) (a' := ?_) #[true, true, true, true, true] rfl rfl (by kernel_rfl) (fun _ _ _ h => h) (Or.inl ⟨by rfl, ?_⟩) ?_ ?_
      rotate_left
      ·intro w'
       go_simp
       with_reducible rfl
      rotate_left
      ·simp only [Act.put, List.setIfInBounds_toArray, List.set_cons_zero, List.set_cons_succ, i64_w, i32_w]
       rfl
      refine done_ (by kernel_rfl) ?_
      have hnb65 := NB365_349.out
      have hnc65 := NB349_365.out
      have hnb66 := NB365_360.out
      have hnc66 := NB360_365.out
      have hnb67 := NB365_371.out
      have hnc67 := NB371_365.out
      have hcz68_0 : w64.cell? ⟨gb365, 0, none⟩ = some (.int .i64 t361) := (blk_cell BK365.out 0).trans rfl
      have hcz68_1 : w64.cell? ⟨gb365, 1, none⟩ = some (.slice Ao29 t362.length co29) := (blk_cell BK365.out 1).trans rfl
      have hfz68_0 := blk_frozen BK365.out 0
      have hfz68_1 := blk_frozen BK365.out 1
      go_upto_region 14 with (first | ((with_reducible refine gate_callee (f := 21) rfl ?_); refine goesL_ (some 48) rfl rfl Tryz.func21 (by kernel_rfl) rfl #[.agg #[.int .i64 t361, .slice Ao29 t362.length co29], .int .i64 1] rfl (by (try simp only [List.map_toArray, List.map_cons, List.map_nil]); first | done | rfl | (simp only [List.length_drop, List.length_take]; rfl)) ?_; (with_reducible refine (laws_markPuzzle.calls kj10 t361 (fun k_ => some k_ = (.slice Ao29 t362.length co29 : Value).ownBlock) (.slice Ao29 t362.length co29) t362 1 t378 t379 w _ ?side1 ?side2 A59.out).mono ?_); (case side1 => repeat (first | (with_reducible first | exact HB.out | apply below_alloc | apply pw_below_drewN | apply below_drew1 | refine below_set ?_ GE349.out | refine below_set ?_ GE360.out | refine below_set ?_ GE365.out | refine below_set ?_ GE371.out) | exact HB.out)); (case side2 => exact Kd.R_tight rfl HO_366001.out); rintro e w69 ⟨rfl, hy0, hb, hkp⟩; refine ⟨_, rfl, ?_⟩; have n0_ := Aside0.mk (Kd.R_mono (ok' := fun k_ => some k_ ≠ (.slice Ao29 t362.length co29 : Value).ownBlock ∧ some k_ ≠ (.slice Ao36 t367.length co36 : Value).ownBlock ∧ some k_ ≠ (.slice Ao63 t374.length co63 : Value).ownBlock) (Kd.R_keptB (HO_361001.out) hkp (fun k_ hk_ hs_ => (hk_.1.1) hs_)) (fun k_ hk_ => ⟨hk_.1.1.1, hk_.1.1.2, hk_.1.2⟩)); have n1_ := Aside0.mk (Kd.R_reok rfl hy0 (fun k_ e_ => HO_366001.out.1 k_ e_)); have n2_ := Aside0.mk (Kd.R_mono (ok' := fun k_ => some k_ ≠ (.slice Ao22 t356.length co22 : Value).ownBlock ∧ some k_ ≠ (.slice Ao29 t362.length co29 : Value).ownBlock ∧ some k_ ≠ (.slice Ao63 t374.length co63 : Value).ownBlock) (Kd.R_keptB (HO_372001.out) hkp (fun k_ hk_ hs_ => (hk_.1.2) hs_)) (fun k_ hk_ => ⟨hk_.1.1.1, hk_.1.1.2, hk_.1.2⟩)); have n3_ := Aside0.mk (blk_kept (by (with_reducible repeat (first | refine blk_drewN ?_ _ | refine blk_drew ?_ | refine blk_alloc ?_ _)); exact BK349.out) hkp (fun hs_ => (fun e_ => (Kd.R_ne HO_366001.out BK349.out (by decide)) e_) hs_)); have n4_ := Aside0.mk (blk_kept (by (with_reducible repeat (first | refine blk_drewN ?_ _ | refine blk_drew ?_ | refine blk_alloc ?_ _)); exact BK360.out) hkp (fun hs_ => (fun e_ => (Kd.R_ne HO_366001.out BK360.out (by decide)) e_) hs_)); have n5_ := Aside0.mk (blk_kept (by (with_reducible repeat (first | refine blk_drewN ?_ _ | refine blk_drew ?_ | refine blk_alloc ?_ _)); exact BK365.out) hkp (fun hs_ => (fun e_ => (Kd.R_ne HO_366001.out BK365.out (by decide)) e_) hs_)); have n6_ := Aside0.mk (blk_kept (by (with_reducible repeat (first | refine blk_drewN ?_ _ | refine blk_drew ?_ | refine blk_alloc ?_ _)); exact BK371.out) hkp (fun hs_ => (fun e_ => (Kd.R_ne HO_366001.out BK371.out (by decide)) e_) hs_)); have n7_ := Aside0.mk (Kd.R_mono (ok' := fun k_ => some k_ ≠ (.slice Ao22 t356.length co22 : Value).ownBlock ∧ some k_ ≠ (.slice Ao29 t362.length co29 : Value).ownBlock ∧ some k_ ≠ (.slice Ao36 t367.length co36 : Value).ownBlock) (Kd.R_keptB (HO376.out) hkp (fun k_ hk_ hs_ => (hk_.1.2) hs_)) (fun k_ hk_ => ⟨hk_.1.1.1.2, hk_.1.1.2, hk_.1.2⟩)); have n8_ := Aside0.mk (hb); clear HO_361001; clear HO_366001; clear HO_372001; clear BK349; clear BK360; clear BK365; clear BK371; clear HO376; clear HB; have HO_361001 := n0_; have HO_366001 := n1_; have HO_372001 := n2_; have BK349 := n3_; have BK360 := n4_; have BK365 := n5_; have BK371 := n6_; have HO376 := n7_; have HB := n8_; clear n0_ n1_ n2_ n3_ n4_ n5_ n6_ n7_ n8_; (try clear hb); (try clear hkp); (try clear hy0)))
      (try simp only [Act.put, List.setIfInBounds_toArray, List.set_cons_zero, List.set_cons_succ])
      go_cut [61] (fun v61 wc => ∃ (kq : Nat) (x61_59 : Bool), v61 = .bool x61_59 ∧ Aside0 (laws_FnExactHarderPuzzle.j1 kq t359 x61_59 a0_0 l0_1 t355 t356 t366 t367 = some r) ∧ Aside0 (kq ≤ kj10) ∧ Aside0 (Kd.R k86 86 wc w.heap.size (fun k_ => some k_ ≠ ((.slice Ao29 t362.length co29) : Value).ownBlock ∧ some k_ ≠ ((.slice Ao36 t367.length co36) : Value).ownBlock) (.slice Ao22 t356.length co22) t356) ∧ Aside0 (Kd.R k86 86 wc w.heap.size (fun k_ => some k_ ≠ ((.slice Ao22 t356.length co22) : Value).ownBlock ∧ some k_ ≠ ((.slice Ao36 t367.length co36) : Value).ownBlock) (.slice Ao29 t362.length co29) t379) ∧ Aside0 (Kd.R k86 86 wc w.heap.size (fun k_ => some k_ ≠ ((.slice Ao22 t356.length co22) : Value).ownBlock ∧ some k_ ≠ ((.slice Ao29 t362.length co29) : Value).ownBlock) (.slice Ao36 t367.length co36) t367) ∧ Aside0 (wc.heap[gb349]? = some (.cells #[.int .i64 a0_0, (.slice A0_1 l0_1.length c0_1)] 34 (0, 0))) ∧ Aside0 (wc.heap[gb360]? = some (.cells #[.int .i64 t355, (.slice Ao22 t356.length co22)] 41 (0, 0))) ∧ Aside0 (wc.heap[gb365]? = some (.cells #[.int .i64 t361, (.slice Ao29 t362.length co29)] 41 (0, 0))) ∧ Aside0 (wc.heap[gb371]? = some (.cells #[.int .i64 t366, (.slice Ao36 t367.length co36)] 41 (0, 0))) ∧ Aside0 (Below w.heap.size w wc))
      case first =>
       have H := HC60.out
       clear HC60
       by_cases c70 : t378 < 0
       ·rw [if_pos c70] at H
        have c70b0 : decide (t378 < 0) = true := decide_eq_true c70
        clear c70
        (first | rw [c70b0] | (simp only [i64_w, i32_w]; rw [c70b0]) | skip)
        have H' := Aside0.mk H
        clear H
        go_wp2
        go_meet
        case rel => exact ⟨_, (true), (by first | rfl | (simp; done) | (simp [*]; done)), H', ⟨by have := HJ10.out; first | omega | exact Nat.le_refl _⟩, ⟨by (with_reducible repeat (first | apply Kd.R_alloc | apply Kd.R_drewN | apply Kd.R_drew)); exact Kd.R_mono HO_361001.out (fun _ hk => ⟨hk.1, hk.2.1⟩)⟩, ⟨by (with_reducible repeat (first | apply Kd.R_alloc | apply Kd.R_drewN | apply Kd.R_drew)); exact Kd.R_mono HO_366001.out (fun _ hk => ⟨hk.1.1, hk.1.2⟩)⟩, ⟨by (with_reducible repeat (first | apply Kd.R_alloc | apply Kd.R_drewN | apply Kd.R_drew)); exact Kd.R_mono HO_372001.out (fun _ hk => ⟨hk.1, hk.2.1⟩)⟩, ⟨by (with_reducible repeat (first | refine blk_drewN ?_ _ | refine blk_drew ?_ | refine blk_alloc ?_ _)); exact BK349.out⟩, ⟨by (with_reducible repeat (first | refine blk_drewN ?_ _ | refine blk_drew ?_ | refine blk_alloc ?_ _)); exact BK360.out⟩, ⟨by (with_reducible repeat (first | refine blk_drewN ?_ _ | refine blk_drew ?_ | refine blk_alloc ?_ _)); exact BK365.out⟩, ⟨by (with_reducible repeat (first | refine blk_drewN ?_ _ | refine blk_drew ?_ | refine blk_alloc ?_ _)); exact BK371.out⟩, ⟨by repeat (first | (with_reducible first | exact HB.out | apply below_alloc | apply pw_below_drewN | apply below_drew1 | refine below_set ?_ GE349.out | refine below_set ?_ GE360.out | refine below_set ?_ GE365.out | refine below_set ?_ GE371.out) | exact HB.out)⟩⟩
       ·rw [if_neg c70] at H
        have c70b0 : decide (t378 < 0) = false := decide_eq_false c70
        clear c70
        (first | rw [c70b0] | (simp only [i64_w, i32_w]; rw [c70b0]) | skip)
        replace H := Option.bind_eq_some_iff.mp H
        obtain ⟨t380, A710, H⟩ := H
        replace H : (if t380 = true then (laws_FnExactHarderPuzzle.j1 kj10 t359 (t370 != t359) a0_0 l0_1 t355 t356 t366 t367) else (laws_FnExactHarderPuzzle.j1 kj10 t359 true a0_0 l0_1 t355 t356 t366 t367)) = some r := H
        have A71 := Aside0.mk A710
        clear A710
        by_cases c72 : t380 = true
        ·subst c72
         have H1 : (laws_FnExactHarderPuzzle.j1 kj10 t359 (t370 != t359) a0_0 l0_1 t355 t356 t366 t367) = some r := by rw [if_pos rfl] at H; exact H
         clear H
         have H := H1
         clear H1
         have H' := Aside0.mk H
         clear H
         have hnb73 := NB371_349.out
         have hnc73 := NB349_371.out
         have hnb74 := NB371_360.out
         have hnc74 := NB360_371.out
         have hnb75 := NB371_365.out
         have hnc75 := NB365_371.out
         have hcz76_0 : w69.cell? ⟨gb371, 0, none⟩ = some (.int .i64 t366) := (blk_cell BK371.out 0).trans rfl
         have hcz76_1 : w69.cell? ⟨gb371, 1, none⟩ = some (.slice Ao36 t367.length co36) := (blk_cell BK371.out 1).trans rfl
         have hfz76_0 := blk_frozen BK371.out 0
         have hfz76_1 := blk_frozen BK371.out 1
         have hnb77 := NB360_349.out
         have hnc77 := NB349_360.out
         have hnb78 := NB360_365.out
         have hnc78 := NB365_360.out
         have hcz79_0 : w69.cell? ⟨gb360, 0, none⟩ = some (.int .i64 t355) := (blk_cell BK360.out 0).trans rfl
         have hcz79_1 : w69.cell? ⟨gb360, 1, none⟩ = some (.slice Ao22 t356.length co22) := (blk_cell BK360.out 1).trans rfl
         have hfz79_0 := blk_frozen BK360.out 0
         have hfz79_1 := blk_frozen BK360.out 1
         go_wp2_with (first | (go_at_call 20; (with_reducible refine (laws_eqPuzzle.calls kj10 t366 _ _ t367 t355 _ _ t356 true _ ?side1 ?side2 ?side3 ?side4 A71.out).mono ?_); (case side1 => repeat (first | exact (Kd.R_reads' HO_372001.out).2.2 | (with_reducible refine Kd.C_alloc ?_ _) | (with_reducible refine Kd.C_drewN ?_ _) | (with_reducible refine Kd.C_drew ?_))); (case side2 => exact (Kd.R_reads' HO_372001.out).2.1); (case side3 => repeat (first | exact (Kd.R_reads' HO_361001.out).2.2 | (with_reducible refine Kd.C_alloc ?_ _) | (with_reducible refine Kd.C_drewN ?_ _) | (with_reducible refine Kd.C_drew ?_))); (case side4 => exact (Kd.R_reads' HO_361001.out).2.1); rintro e w80 ⟨rfl, hb⟩; have n0_ := Aside0.mk (Kd.R_below (by (with_reducible repeat (first | apply Kd.R_alloc | apply Kd.R_drewN | apply Kd.R_drew)); exact HO_361001.out) hb); have n1_ := Aside0.mk (Kd.R_below (by (with_reducible repeat (first | apply Kd.R_alloc | apply Kd.R_drewN | apply Kd.R_drew)); exact HO_366001.out) hb); have n2_ := Aside0.mk (Kd.R_below (by (with_reducible repeat (first | apply Kd.R_alloc | apply Kd.R_drewN | apply Kd.R_drew)); exact HO_372001.out) hb); have n3_ := Aside0.mk (Kd.R_below (by (with_reducible repeat (first | apply Kd.R_alloc | apply Kd.R_drewN | apply Kd.R_drew)); exact HO376.out) hb); have n4_ := Aside0.mk (blk_below (g := gb349) (o := .cells #[.int .i64 a0_0, .slice A0_1 l0_1.length c0_1] 34 (0, 0)) (by (with_reducible repeat (first | refine blk_drewN ?_ _ | refine blk_drew ?_ | refine blk_alloc ?_ _)); exact BK349.out) hb); have n5_ := Aside0.mk (blk_below (g := gb360) (o := .cells #[.int .i64 t355, .slice Ao22 t356.length co22] 41 (0, 0)) (by (with_reducible repeat (first | refine blk_drewN ?_ _ | refine blk_drew ?_ | refine blk_alloc ?_ _)); exact BK360.out) hb); have n6_ := Aside0.mk (blk_below (g := gb365) (o := .cells #[.int .i64 t361, .slice Ao29 t362.length co29] 41 (0, 0)) (by (with_reducible repeat (first | refine blk_drewN ?_ _ | refine blk_drew ?_ | refine blk_alloc ?_ _)); exact BK365.out) hb); have n7_ := Aside0.mk (blk_below (g := gb371) (o := .cells #[.int .i64 t366, .slice Ao36 t367.length co36] 41 (0, 0)) (by (with_reducible repeat (first | refine blk_drewN ?_ _ | refine blk_drew ?_ | refine blk_alloc ?_ _)); exact BK371.out) hb); have n8_ := Aside0.mk (below_step (by repeat (first | (with_reducible first | exact HB.out | apply below_alloc | apply pw_below_drewN | apply below_drew1 | refine below_set ?_ GE349.out | refine below_set ?_ GE360.out | refine below_set ?_ GE365.out | refine below_set ?_ GE371.out) | exact HB.out)) hb); clear HO_361001; clear HO_366001; clear HO_372001; clear HO376; clear BK349; clear BK360; clear BK365; clear BK371; clear HB; have HO_361001 := n0_; have HO_366001 := n1_; have HO_372001 := n2_; have HO376 := n3_; have BK349 := n4_; have BK360 := n5_; have BK365 := n6_; have BK371 := n7_; have HB := n8_; clear n0_ n1_ n2_ n3_ n4_ n5_ n6_ n7_ n8_; (try clear hb); (try clear hb2); (try clear hk); (try clear hi)))
         go_meet
         case rel => exact ⟨_, ((t370 != t359)), (by first | rfl | (simp; done) | (simp [*]; done)), H', ⟨by have := HJ10.out; first | omega | exact Nat.le_refl _⟩, ⟨by (with_reducible repeat (first | apply Kd.R_alloc | apply Kd.R_drewN | apply Kd.R_drew)); exact Kd.R_mono HO_361001.out (fun _ hk => ⟨hk.1, hk.2.1⟩)⟩, ⟨by (with_reducible repeat (first | apply Kd.R_alloc | apply Kd.R_drewN | apply Kd.R_drew)); exact Kd.R_mono HO_366001.out (fun _ hk => ⟨hk.1.1, hk.1.2⟩)⟩, ⟨by (with_reducible repeat (first | apply Kd.R_alloc | apply Kd.R_drewN | apply Kd.R_drew)); exact Kd.R_mono HO_372001.out (fun _ hk => ⟨hk.1, hk.2.1⟩)⟩, ⟨by (with_reducible repeat (first | refine blk_drewN ?_ _ | refine blk_drew ?_ | refine blk_alloc ?_ _)); exact BK349.out⟩, ⟨by (with_reducible repeat (first | refine blk_drewN ?_ _ | refine blk_drew ?_ | refine blk_alloc ?_ _)); exact BK360.out⟩, ⟨by (with_reducible repeat (first | refine blk_drewN ?_ _ | refine blk_drew ?_ | refine blk_alloc ?_ _)); exact BK365.out⟩, ⟨by (with_reducible repeat (first | refine blk_drewN ?_ _ | refine blk_drew ?_ | refine blk_alloc ?_ _)); exact BK371.out⟩, ⟨by repeat (first | (with_reducible first | exact HB.out | apply below_alloc | apply pw_below_drewN | apply below_drew1 | refine below_set ?_ GE349.out | refine below_set ?_ GE360.out | refine below_set ?_ GE365.out | refine below_set ?_ GE371.out) | exact HB.out)⟩⟩
        ·replace c72 := Bool.eq_false_iff.mpr c72
         subst c72
         have H1 : (laws_FnExactHarderPuzzle.j1 kj10 t359 true a0_0 l0_1 t355 t356 t366 t367) = some r := by rw [if_neg (show ¬ (false = true) by decide)] at H; exact H
         clear H
         have H := H1
         clear H1
         have H' := Aside0.mk H
         clear H
         have hnb81 := NB371_349.out
         have hnc81 := NB349_371.out
         have hnb82 := NB371_360.out
         have hnc82 := NB360_371.out
         have hnb83 := NB371_365.out
         have hnc83 := NB365_371.out
         have hcz84_0 : w69.cell? ⟨gb371, 0, none⟩ = some (.int .i64 t366) := (blk_cell BK371.out 0).trans rfl
         have hcz84_1 : w69.cell? ⟨gb371, 1, none⟩ = some (.slice Ao36 t367.length co36) := (blk_cell BK371.out 1).trans rfl
         have hfz84_0 := blk_frozen BK371.out 0
         have hfz84_1 := blk_frozen BK371.out 1
         have hnb85 := NB360_349.out
         have hnc85 := NB349_360.out
         have hnb86 := NB360_365.out
         have hnc86 := NB365_360.out
         have hcz87_0 : w69.cell? ⟨gb360, 0, none⟩ = some (.int .i64 t355) := (blk_cell BK360.out 0).trans rfl
         have hcz87_1 : w69.cell? ⟨gb360, 1, none⟩ = some (.slice Ao22 t356.length co22) := (blk_cell BK360.out 1).trans rfl
         have hfz87_0 := blk_frozen BK360.out 0
         have hfz87_1 := blk_frozen BK360.out 1
         go_wp2_with (first | (go_at_call 20; (with_reducible refine (laws_eqPuzzle.calls kj10 t366 _ _ t367 t355 _ _ t356 false _ ?side1 ?side2 ?side3 ?side4 A71.out).mono ?_); (case side1 => repeat (first | exact (Kd.R_reads' HO_372001.out).2.2 | (with_reducible refine Kd.C_alloc ?_ _) | (with_reducible refine Kd.C_drewN ?_ _) | (with_reducible refine Kd.C_drew ?_))); (case side2 => exact (Kd.R_reads' HO_372001.out).2.1); (case side3 => repeat (first | exact (Kd.R_reads' HO_361001.out).2.2 | (with_reducible refine Kd.C_alloc ?_ _) | (with_reducible refine Kd.C_drewN ?_ _) | (with_reducible refine Kd.C_drew ?_))); (case side4 => exact (Kd.R_reads' HO_361001.out).2.1); rintro e w88 ⟨rfl, hb⟩; have n0_ := Aside0.mk (Kd.R_below (by (with_reducible repeat (first | apply Kd.R_alloc | apply Kd.R_drewN | apply Kd.R_drew)); exact HO_361001.out) hb); have n1_ := Aside0.mk (Kd.R_below (by (with_reducible repeat (first | apply Kd.R_alloc | apply Kd.R_drewN | apply Kd.R_drew)); exact HO_366001.out) hb); have n2_ := Aside0.mk (Kd.R_below (by (with_reducible repeat (first | apply Kd.R_alloc | apply Kd.R_drewN | apply Kd.R_drew)); exact HO_372001.out) hb); have n3_ := Aside0.mk (Kd.R_below (by (with_reducible repeat (first | apply Kd.R_alloc | apply Kd.R_drewN | apply Kd.R_drew)); exact HO376.out) hb); have n4_ := Aside0.mk (blk_below (g := gb349) (o := .cells #[.int .i64 a0_0, .slice A0_1 l0_1.length c0_1] 34 (0, 0)) (by (with_reducible repeat (first | refine blk_drewN ?_ _ | refine blk_drew ?_ | refine blk_alloc ?_ _)); exact BK349.out) hb); have n5_ := Aside0.mk (blk_below (g := gb360) (o := .cells #[.int .i64 t355, .slice Ao22 t356.length co22] 41 (0, 0)) (by (with_reducible repeat (first | refine blk_drewN ?_ _ | refine blk_drew ?_ | refine blk_alloc ?_ _)); exact BK360.out) hb); have n6_ := Aside0.mk (blk_below (g := gb365) (o := .cells #[.int .i64 t361, .slice Ao29 t362.length co29] 41 (0, 0)) (by (with_reducible repeat (first | refine blk_drewN ?_ _ | refine blk_drew ?_ | refine blk_alloc ?_ _)); exact BK365.out) hb); have n7_ := Aside0.mk (blk_below (g := gb371) (o := .cells #[.int .i64 t366, .slice Ao36 t367.length co36] 41 (0, 0)) (by (with_reducible repeat (first | refine blk_drewN ?_ _ | refine blk_drew ?_ | refine blk_alloc ?_ _)); exact BK371.out) hb); have n8_ := Aside0.mk (below_step (by repeat (first | (with_reducible first | exact HB.out | apply below_alloc | apply pw_below_drewN | apply below_drew1 | refine below_set ?_ GE349.out | refine below_set ?_ GE360.out | refine below_set ?_ GE365.out | refine below_set ?_ GE371.out) | exact HB.out)) hb); clear HO_361001; clear HO_366001; clear HO_372001; clear HO376; clear BK349; clear BK360; clear BK365; clear BK371; clear HB; have HO_361001 := n0_; have HO_366001 := n1_; have HO_372001 := n2_; have HO376 := n3_; have BK349 := n4_; have BK360 := n5_; have BK365 := n6_; have BK371 := n7_; have HB := n8_; clear n0_ n1_ n2_ n3_ n4_ n5_ n6_ n7_ n8_; (try clear hb); (try clear hb2); (try clear hk); (try clear hi)))
         go_meet
         case rel => exact ⟨_, (true), (by first | rfl | (simp; done) | (simp [*]; done)), H', ⟨by have := HJ10.out; first | omega | exact Nat.le_refl _⟩, ⟨by (with_reducible repeat (first | apply Kd.R_alloc | apply Kd.R_drewN | apply Kd.R_drew)); exact Kd.R_mono HO_361001.out (fun _ hk => ⟨hk.1, hk.2.1⟩)⟩, ⟨by (with_reducible repeat (first | apply Kd.R_alloc | apply Kd.R_drewN | apply Kd.R_drew)); exact Kd.R_mono HO_366001.out (fun _ hk => ⟨hk.1.1, hk.1.2⟩)⟩, ⟨by (with_reducible repeat (first | apply Kd.R_alloc | apply Kd.R_drewN | apply Kd.R_drew)); exact Kd.R_mono HO_372001.out (fun _ hk => ⟨hk.1, hk.2.1⟩)⟩, ⟨by (with_reducible repeat (first | refine blk_drewN ?_ _ | refine blk_drew ?_ | refine blk_alloc ?_ _)); exact BK349.out⟩, ⟨by (with_reducible repeat (first | refine blk_drewN ?_ _ | refine blk_drew ?_ | refine blk_alloc ?_ _)); exact BK360.out⟩, ⟨by (with_reducible repeat (first | refine blk_drewN ?_ _ | refine blk_drew ?_ | refine blk_alloc ?_ _)); exact BK365.out⟩, ⟨by (with_reducible repeat (first | refine blk_drewN ?_ _ | refine blk_drew ?_ | refine blk_alloc ?_ _)); exact BK371.out⟩, ⟨by repeat (first | (with_reducible first | exact HB.out | apply below_alloc | apply pw_below_drewN | apply below_drew1 | refine below_set ?_ GE349.out | refine below_set ?_ GE360.out | refine below_set ?_ GE365.out | refine below_set ?_ GE371.out) | exact HB.out)⟩⟩
      case rest =>
       clear HC60
       try clear c1
       try clear c2
       try clear p2
       try clear c3
       try clear c3b0
       try clear c4
       try clear c5
       try clear c6
       try clear c7
       try clear c8
       try clear c15
       try clear c17
       try clear c20
       try clear c21
       try clear c24
       try clear c25
       try clear c26
       try clear c27
       try clear c32
       try clear c33
       try clear c34
       try clear c38
       try clear c39
       try clear c40
       try clear c41
       try clear c43
       try clear c44
       try clear c47
       try clear c48
       try clear c49
       try clear c51
       try clear c52
       try clear c55
       try clear c58
       try clear c65
       try clear c66
       try clear c67
       try clear c70
       try clear c70b0
       try clear c72
       try clear c73
       try clear c74
       try clear c75
       try clear c77
       try clear c78
       try clear c81
       try clear c82
       try clear c83
       try clear c85
       try clear c86
       try clear hcz13_0
       try clear hcz13_1
       try clear hcz15_0
       try clear hcz15_1
       try clear hcz21_0
       try clear hcz21_1
       try clear hcz23_0
       try clear hcz23_1
       try clear hcz28_0
       try clear hcz28_1
       try clear hcz35_0
       try clear hcz35_1
       try clear hcz42_0
       try clear hcz42_1
       try clear hcz45_0
       try clear hcz45_1
       try clear hcz50_0
       try clear hcz50_1
       try clear hcz53_0
       try clear hcz53_1
       try clear hcz5_0
       try clear hcz5_1
       try clear hcz68_0
       try clear hcz68_1
       try clear hcz76_0
       try clear hcz76_1
       try clear hcz79_0
       try clear hcz79_1
       try clear hcz84_0
       try clear hcz84_1
       try clear hcz87_0
       try clear hcz87_1
       try clear hfz13_0
       try clear hfz13_1
       try clear hfz15_0
       try clear hfz15_1
       try clear hfz21_0
       try clear hfz21_1
       try clear hfz23_0
       try clear hfz23_1
       try clear hfz28_0
       try clear hfz28_1
       try clear hfz35_0
       try clear hfz35_1
       try clear hfz42_0
       try clear hfz42_1
       try clear hfz45_0
       try clear hfz45_1
       try clear hfz50_0
       try clear hfz50_1
       try clear hfz53_0
       try clear hfz53_1
       try clear hfz5_0
       try clear hfz5_1
       try clear hfz68_0
       try clear hfz68_1
       try clear hfz76_0
       try clear hfz76_1
       try clear hfz79_0
       try clear hfz79_1
       try clear hfz84_0
       try clear hfz84_1
       try clear hfz87_0
       try clear hfz87_1
       try clear p2
       obtain ⟨kq, x61_59, rfl, HA, HJ59, HO_361001, HO_366001, HO_372001, BK349, BK360, BK365, BK371, HB⟩ := hcut
       have hl366001_59 := (Kd.R_reads' HO_366001.out).1
       rw [hl366001_59] at HO_366001
       (try simp only [hl366001_59])
       (try simp only [hl366001_59] at BK349)
       (try simp only [hl366001_59] at BK360)
       (try simp only [hl366001_59] at BK365)
       (try simp only [hl366001_59] at BK371)
       (try simp only [hl366001_59] at HO_361001)
       (try simp only [hl366001_59] at HO_372001)
       cases kq with
       | zero => exact absurd HA.out (by simp [laws_FnExactHarderPuzzle.j1])
       | succ kj59 =>
        have H := HA.out
        clear HA
        simp only [laws_FnExactHarderPuzzle.j1] at H
        by_cases c89 : x61_59 = true
        ·subst c89
         have H1 : (some false) = some r := by rw [if_pos rfl] at H; exact H
         clear H
         have H := H1
         clear H1
         obtain rfl := Option.some.inj H
         go_wp2
         go_ret
         exact ⟨by first | rfl | (simp [errW_none, errW_some] <;> rfl) | (simp [*, errW_none, errW_some] <;> rfl), by repeat (first | (with_reducible first | exact HB.out | apply below_alloc | apply pw_below_drewN | apply below_drew1 | refine below_set ?_ GE349.out | refine below_set ?_ GE360.out | refine below_set ?_ GE365.out | refine below_set ?_ GE371.out) | exact HB.out)⟩
        ·replace c89 := Bool.eq_false_iff.mpr c89
         subst c89
         have H1 : ((laws_markPuzzle.f kj59 t366 t367 1).bind fun bt381 => ((laws_heldPuzzle.f kj59 t366 bt381.2 1).bind fun t383 => (if t383 < 0 then (some false) else (if t383 = bt381.1 then ((laws_toPuzzle.f kj59 a0_0 l0_1).bind fun bt384 => ((impl_HarderPuzzle.f kj59 bt384.1 bt384.2).bind fun bt388 => ((laws_eqPuzzle.f kj59 bt388.1 bt388.2.1 t355 t356).bind fun t394 => (if t394 = true then (laws_FnExactHarderPuzzle.j2 kj59 bt381.1 (bt388.2.2 != t359) t366 bt381.2) else (laws_FnExactHarderPuzzle.j2 kj59 bt381.1 true t366 bt381.2))))) else (some false))))) = some r := by rw [if_neg (show ¬ (false = true) by decide)] at H; exact H
         clear H
         have H := H1
         clear H1
         replace H := Option.bind_eq_some_iff.mp H
         obtain ⟨⟨t381, t382⟩, A900, H⟩ := H
         replace H : ((laws_heldPuzzle.f kj59 t366 t382 1).bind fun t383 => (if t383 < 0 then (some false) else (if t383 = t381 then ((laws_toPuzzle.f kj59 a0_0 l0_1).bind fun bt384 => ((impl_HarderPuzzle.f kj59 bt384.1 bt384.2).bind fun bt388 => ((laws_eqPuzzle.f kj59 bt388.1 bt388.2.1 t355 t356).bind fun t394 => (if t394 = true then (laws_FnExactHarderPuzzle.j2 kj59 t381 (bt388.2.2 != t359) t366 t382) else (laws_FnExactHarderPuzzle.j2 kj59 t381 true t366 t382))))) else (some false)))) = some r := H
         have A90 := Aside0.mk A900
         clear A900
         replace H := Option.bind_eq_some_iff.mp H
         obtain ⟨t383, A910, H⟩ := H
         replace H : (if t383 < 0 then (some false) else (if t383 = t381 then ((laws_toPuzzle.f kj59 a0_0 l0_1).bind fun bt384 => ((impl_HarderPuzzle.f kj59 bt384.1 bt384.2).bind fun bt388 => ((laws_eqPuzzle.f kj59 bt388.1 bt388.2.1 t355 t356).bind fun t394 => (if t394 = true then (laws_FnExactHarderPuzzle.j2 kj59 t381 (bt388.2.2 != t359) t366 t382) else (laws_FnExactHarderPuzzle.j2 kj59 t381 true t366 t382))))) else (some false))) = some r := H
         have A91 := Aside0.mk A910
         clear A910
         by_cases c92 : t383 < 0
         ·rw [if_pos c92] at H
          have c92b0 : decide (t383 < 0) = true := decide_eq_true c92
          clear c92
          obtain rfl := Option.some.inj H
          have hnb93 := NB371_349.out
          have hnc93 := NB349_371.out
          have hnb94 := NB371_360.out
          have hnc94 := NB360_371.out
          have hnb95 := NB371_365.out
          have hnc95 := NB365_371.out
          have hcz96_0 : wc.cell? ⟨gb371, 0, none⟩ = some (.int .i64 t366) := (blk_cell BK371.out 0).trans rfl
          have hcz96_1 : wc.cell? ⟨gb371, 1, none⟩ = some (.slice Ao36 t367.length co36) := (blk_cell BK371.out 1).trans rfl
          have hfz96_0 := blk_frozen BK371.out 0
          have hfz96_1 := blk_frozen BK371.out 1
          go_wp2_with (first | ((with_reducible refine gate_callee (f := 21) rfl ?_); refine goesL_ (some 64) rfl rfl Tryz.func21 (by kernel_rfl) rfl #[.agg #[.int .i64 t366, .slice Ao36 t367.length co36], .int .i64 1] rfl (by (try simp only [List.map_toArray, List.map_cons, List.map_nil]); first | done | rfl | (simp only [List.length_drop, List.length_take]; rfl)) ?_; (with_reducible refine (laws_markPuzzle.calls kj59 t366 (fun k_ => some k_ = (.slice Ao36 t367.length co36 : Value).ownBlock) (.slice Ao36 t367.length co36) t367 1 t381 t382 w _ ?side1 ?side2 A90.out).mono ?_); (case side1 => repeat (first | (with_reducible first | exact HB.out | apply below_alloc | apply pw_below_drewN | apply below_drew1 | refine below_set ?_ GE349.out | refine below_set ?_ GE360.out | refine below_set ?_ GE365.out | refine below_set ?_ GE371.out) | exact HB.out)); (case side2 => exact Kd.R_tight rfl HO_372001.out); rintro e w97 ⟨rfl, hy0, hb, hkp⟩; refine ⟨_, rfl, ?_⟩; have n0_ := Aside0.mk (Kd.R_mono (ok' := fun k_ => some k_ ≠ (.slice Ao29 t379.length co29 : Value).ownBlock ∧ some k_ ≠ (.slice Ao36 t367.length co36 : Value).ownBlock) (Kd.R_keptB (HO_361001.out) hkp (fun k_ hk_ hs_ => (hk_.2) hs_)) (fun k_ hk_ => ⟨hk_.1.1, hk_.1.2⟩)); have n1_ := Aside0.mk (Kd.R_mono (ok' := fun k_ => some k_ ≠ (.slice Ao22 t356.length co22 : Value).ownBlock ∧ some k_ ≠ (.slice Ao36 t367.length co36 : Value).ownBlock) (Kd.R_keptB (HO_366001.out) hkp (fun k_ hk_ hs_ => (hk_.2) hs_)) (fun k_ hk_ => ⟨hk_.1.1, hk_.1.2⟩)); have n2_ := Aside0.mk (Kd.R_reok rfl hy0 (fun k_ e_ => HO_372001.out.1 k_ e_)); have n3_ := Aside0.mk (blk_kept (by (with_reducible repeat (first | refine blk_drewN ?_ _ | refine blk_drew ?_ | refine blk_alloc ?_ _)); exact BK349.out) hkp (fun hs_ => (fun e_ => (Kd.R_ne HO_372001.out BK349.out (by decide)) e_) hs_)); have n4_ := Aside0.mk (blk_kept (by (with_reducible repeat (first | refine blk_drewN ?_ _ | refine blk_drew ?_ | refine blk_alloc ?_ _)); exact BK360.out) hkp (fun hs_ => (fun e_ => (Kd.R_ne HO_372001.out BK360.out (by decide)) e_) hs_)); have n5_ := Aside0.mk (blk_kept (by (with_reducible repeat (first | refine blk_drewN ?_ _ | refine blk_drew ?_ | refine blk_alloc ?_ _)); exact BK365.out) hkp (fun hs_ => (fun e_ => (Kd.R_ne HO_372001.out BK365.out (by decide)) e_) hs_)); have n6_ := Aside0.mk (blk_kept (by (with_reducible repeat (first | refine blk_drewN ?_ _ | refine blk_drew ?_ | refine blk_alloc ?_ _)); exact BK371.out) hkp (fun hs_ => (fun e_ => (Kd.R_ne HO_372001.out BK371.out (by decide)) e_) hs_)); have n7_ := Aside0.mk (hb); clear HO_361001; clear HO_366001; clear HO_372001; clear BK349; clear BK360; clear BK365; clear BK371; clear HB; have HO_361001 := n0_; have HO_366001 := n1_; have HO_372001 := n2_; have BK349 := n3_; have BK360 := n4_; have BK365 := n5_; have BK371 := n6_; have HB := n7_; clear n0_ n1_ n2_ n3_ n4_ n5_ n6_ n7_; (try clear hb); (try clear hkp); (try clear hy0); have hcz98_0 : w97.cell? ⟨gb371, 0, none⟩ = some (.int .i64 t366) := (blk_cell BK371.out 0).trans rfl; have hcz98_1 : w97.cell? ⟨gb371, 1, none⟩ = some (.slice Ao36 t367.length co36) := (blk_cell BK371.out 1).trans rfl; have hfz98_0 := blk_frozen BK371.out 0; have hfz98_1 := blk_frozen BK371.out 1) | ((with_reducible refine gate_callee (f := 26) rfl ?_); refine goesL_ (some 67) rfl rfl Tryz.func26 (by kernel_rfl) rfl #[.agg #[.int .i64 t366, .slice Ao36 t382.length co36], .int .i64 1] rfl (by (try simp only [List.map_toArray, List.map_cons, List.map_nil]); first | done | (rw [show t382.length = t367.length from (Kd.R_reads' HO_372001.out).1.symm] <;> rfl) | rfl | (simp only [List.length_drop, List.length_take]; rfl)) ?_; (with_reducible refine (laws_heldPuzzle.calls kj59 t366 _ _ t382 1 t383 _ ?side1 ?side2 A91.out).mono ?_); (case side1 => repeat (first | exact (Kd.R_reads' HO_372001.out).2.2 | (with_reducible refine Kd.C_alloc ?_ _) | (with_reducible refine Kd.C_drewN ?_ _) | (with_reducible refine Kd.C_drew ?_))); (case side2 => rw [show t382.length = t367.length from (Kd.R_reads' HO_372001.out).1.symm]; exact (Kd.R_reads' HO_372001.out).2.1); rintro e w99 ⟨rfl, hb⟩; refine ⟨_, rfl, ?_⟩; have n0_ := Aside0.mk (Kd.R_below (by (with_reducible repeat (first | apply Kd.R_alloc | apply Kd.R_drewN | apply Kd.R_drew)); exact HO_361001.out) hb); have n1_ := Aside0.mk (Kd.R_below (by (with_reducible repeat (first | apply Kd.R_alloc | apply Kd.R_drewN | apply Kd.R_drew)); exact HO_366001.out) hb); have n2_ := Aside0.mk (Kd.R_below (by (with_reducible repeat (first | apply Kd.R_alloc | apply Kd.R_drewN | apply Kd.R_drew)); exact HO_372001.out) hb); have n3_ := Aside0.mk (blk_below (g := gb349) (o := .cells #[.int .i64 a0_0, .slice A0_1 l0_1.length c0_1] 34 (0, 0)) (by (with_reducible repeat (first | refine blk_drewN ?_ _ | refine blk_drew ?_ | refine blk_alloc ?_ _)); exact BK349.out) hb); have n4_ := Aside0.mk (blk_below (g := gb360) (o := .cells #[.int .i64 t355, .slice Ao22 t356.length co22] 41 (0, 0)) (by (with_reducible repeat (first | refine blk_drewN ?_ _ | refine blk_drew ?_ | refine blk_alloc ?_ _)); exact BK360.out) hb); have n5_ := Aside0.mk (blk_below (g := gb365) (o := .cells #[.int .i64 t361, .slice Ao29 t379.length co29] 41 (0, 0)) (by (with_reducible repeat (first | refine blk_drewN ?_ _ | refine blk_drew ?_ | refine blk_alloc ?_ _)); exact BK365.out) hb); have n6_ := Aside0.mk (blk_below (g := gb371) (o := .cells #[.int .i64 t366, .slice Ao36 t367.length co36] 41 (0, 0)) (by (with_reducible repeat (first | refine blk_drewN ?_ _ | refine blk_drew ?_ | refine blk_alloc ?_ _)); exact BK371.out) hb); have n7_ := Aside0.mk (below_step (by repeat (first | (with_reducible first | exact HB.out | apply below_alloc | apply pw_below_drewN | apply below_drew1 | refine below_set ?_ GE349.out | refine below_set ?_ GE360.out | refine below_set ?_ GE365.out | refine below_set ?_ GE371.out) | exact HB.out)) hb); clear HO_361001; clear HO_366001; clear HO_372001; clear BK349; clear BK360; clear BK365; clear BK371; clear HB; have HO_361001 := n0_; have HO_366001 := n1_; have HO_372001 := n2_; have BK349 := n3_; have BK360 := n4_; have BK365 := n5_; have BK371 := n6_; have HB := n7_; clear n0_ n1_ n2_ n3_ n4_ n5_ n6_ n7_; (try clear hb); (try clear hb2); (try clear hk); (try clear hi)))
          go_ret
          exact ⟨by first | rfl | (simp [errW_none, errW_some] <;> rfl) | (simp [*, errW_none, errW_some] <;> rfl), by repeat (first | (with_reducible first | exact HB.out | apply below_alloc | apply pw_below_drewN | apply below_drew1 | refine below_set ?_ GE349.out | refine below_set ?_ GE360.out | refine below_set ?_ GE365.out | refine below_set ?_ GE371.out) | exact HB.out)⟩
         ·rw [if_neg c92] at H
          have c92b0 : decide (t383 < 0) = false := decide_eq_false c92
          clear c92
          by_cases c100 : t383 = t381
          ·rw [if_pos c100] at H
           have c100b0 : (t383 == t381) = true := beq_iff_eq.mpr c100
           have c100b1 : (t383 != t381) = false := bne_eq_false_iff_eq.mpr c100
           clear c100
           replace H := Option.bind_eq_some_iff.mp H
           obtain ⟨⟨t384, t385⟩, A1010, H⟩ := H
           replace H : ((impl_HarderPuzzle.f kj59 t384 t385).bind fun bt388 => ((laws_eqPuzzle.f kj59 bt388.1 bt388.2.1 t355 t356).bind fun t394 => (if t394 = true then (laws_FnExactHarderPuzzle.j2 kj59 t381 (bt388.2.2 != t359) t366 t382) else (laws_FnExactHarderPuzzle.j2 kj59 t381 true t366 t382)))) = some r := H
           have A101 := Aside0.mk A1010
           clear A1010
           replace H := Option.bind_eq_some_iff.mp H
           obtain ⟨⟨t388, t389, t392⟩, A1020, H⟩ := H
           replace H : ((laws_eqPuzzle.f kj59 t388 t389 t355 t356).bind fun t394 => (if t394 = true then (laws_FnExactHarderPuzzle.j2 kj59 t381 (t392 != t359) t366 t382) else (laws_FnExactHarderPuzzle.j2 kj59 t381 true t366 t382))) = some r := H
           have A102 := Aside0.mk A1020
           clear A1020
           have HC103 := Aside0.mk H
           clear H
           have hnb104 := NB371_349.out
           have hnc104 := NB349_371.out
           have hnb105 := NB371_360.out
           have hnc105 := NB360_371.out
           have hnb106 := NB371_365.out
           have hnc106 := NB365_371.out
           have hcz107_0 : wc.cell? ⟨gb371, 0, none⟩ = some (.int .i64 t366) := (blk_cell BK371.out 0).trans rfl
           have hcz107_1 : wc.cell? ⟨gb371, 1, none⟩ = some (.slice Ao36 t367.length co36) := (blk_cell BK371.out 1).trans rfl
           have hfz107_0 := blk_frozen BK371.out 0
           have hfz107_1 := blk_frozen BK371.out 1
           go_upto_region 25 with (first | ((with_reducible refine gate_callee (f := 21) rfl ?_); refine goesL_ (some 64) rfl rfl Tryz.func21 (by kernel_rfl) rfl #[.agg #[.int .i64 t366, .slice Ao36 t367.length co36], .int .i64 1] rfl (by (try simp only [List.map_toArray, List.map_cons, List.map_nil]); first | done | rfl | (simp only [List.length_drop, List.length_take]; rfl)) ?_; (with_reducible refine (laws_markPuzzle.calls kj59 t366 (fun k_ => some k_ = (.slice Ao36 t367.length co36 : Value).ownBlock) (.slice Ao36 t367.length co36) t367 1 t381 t382 w _ ?side1 ?side2 A90.out).mono ?_); (case side1 => repeat (first | (with_reducible first | exact HB.out | apply below_alloc | apply pw_below_drewN | apply below_drew1 | refine below_set ?_ GE349.out | refine below_set ?_ GE360.out | refine below_set ?_ GE365.out | refine below_set ?_ GE371.out) | exact HB.out)); (case side2 => exact Kd.R_tight rfl HO_372001.out); rintro e w108 ⟨rfl, hy0, hb, hkp⟩; refine ⟨_, rfl, ?_⟩; have n0_ := Aside0.mk (Kd.R_mono (ok' := fun k_ => some k_ ≠ (.slice Ao29 t379.length co29 : Value).ownBlock ∧ some k_ ≠ (.slice Ao36 t367.length co36 : Value).ownBlock) (Kd.R_keptB (HO_361001.out) hkp (fun k_ hk_ hs_ => (hk_.2) hs_)) (fun k_ hk_ => ⟨hk_.1.1, hk_.1.2⟩)); have n1_ := Aside0.mk (Kd.R_mono (ok' := fun k_ => some k_ ≠ (.slice Ao22 t356.length co22 : Value).ownBlock ∧ some k_ ≠ (.slice Ao36 t367.length co36 : Value).ownBlock) (Kd.R_keptB (HO_366001.out) hkp (fun k_ hk_ hs_ => (hk_.2) hs_)) (fun k_ hk_ => ⟨hk_.1.1, hk_.1.2⟩)); have n2_ := Aside0.mk (Kd.R_reok rfl hy0 (fun k_ e_ => HO_372001.out.1 k_ e_)); have n3_ := Aside0.mk (blk_kept (by (with_reducible repeat (first | refine blk_drewN ?_ _ | refine blk_drew ?_ | refine blk_alloc ?_ _)); exact BK349.out) hkp (fun hs_ => (fun e_ => (Kd.R_ne HO_372001.out BK349.out (by decide)) e_) hs_)); have n4_ := Aside0.mk (blk_kept (by (with_reducible repeat (first | refine blk_drewN ?_ _ | refine blk_drew ?_ | refine blk_alloc ?_ _)); exact BK360.out) hkp (fun hs_ => (fun e_ => (Kd.R_ne HO_372001.out BK360.out (by decide)) e_) hs_)); have n5_ := Aside0.mk (blk_kept (by (with_reducible repeat (first | refine blk_drewN ?_ _ | refine blk_drew ?_ | refine blk_alloc ?_ _)); exact BK365.out) hkp (fun hs_ => (fun e_ => (Kd.R_ne HO_372001.out BK365.out (by decide)) e_) hs_)); have n6_ := Aside0.mk (blk_kept (by (with_reducible repeat (first | refine blk_drewN ?_ _ | refine blk_drew ?_ | refine blk_alloc ?_ _)); exact BK371.out) hkp (fun hs_ => (fun e_ => (Kd.R_ne HO_372001.out BK371.out (by decide)) e_) hs_)); have n7_ := Aside0.mk (hb); clear HO_361001; clear HO_366001; clear HO_372001; clear BK349; clear BK360; clear BK365; clear BK371; clear HB; have HO_361001 := n0_; have HO_366001 := n1_; have HO_372001 := n2_; have BK349 := n3_; have BK360 := n4_; have BK365 := n5_; have BK371 := n6_; have HB := n7_; clear n0_ n1_ n2_ n3_ n4_ n5_ n6_ n7_; (try clear hb); (try clear hkp); (try clear hy0); have hcz109_0 : w108.cell? ⟨gb371, 0, none⟩ = some (.int .i64 t366) := (blk_cell BK371.out 0).trans rfl; have hcz109_1 : w108.cell? ⟨gb371, 1, none⟩ = some (.slice Ao36 t367.length co36) := (blk_cell BK371.out 1).trans rfl; have hfz109_0 := blk_frozen BK371.out 0; have hfz109_1 := blk_frozen BK371.out 1) | ((with_reducible refine gate_callee (f := 26) rfl ?_); refine goesL_ (some 67) rfl rfl Tryz.func26 (by kernel_rfl) rfl #[.agg #[.int .i64 t366, .slice Ao36 t382.length co36], .int .i64 1] rfl (by (try simp only [List.map_toArray, List.map_cons, List.map_nil]); first | done | (rw [show t382.length = t367.length from (Kd.R_reads' HO_372001.out).1.symm] <;> rfl) | rfl | (simp only [List.length_drop, List.length_take]; rfl)) ?_; (with_reducible refine (laws_heldPuzzle.calls kj59 t366 _ _ t382 1 t383 _ ?side1 ?side2 A91.out).mono ?_); (case side1 => repeat (first | exact (Kd.R_reads' HO_372001.out).2.2 | (with_reducible refine Kd.C_alloc ?_ _) | (with_reducible refine Kd.C_drewN ?_ _) | (with_reducible refine Kd.C_drew ?_))); (case side2 => rw [show t382.length = t367.length from (Kd.R_reads' HO_372001.out).1.symm]; exact (Kd.R_reads' HO_372001.out).2.1); rintro e w110 ⟨rfl, hb⟩; refine ⟨_, rfl, ?_⟩; have n0_ := Aside0.mk (Kd.R_below (by (with_reducible repeat (first | apply Kd.R_alloc | apply Kd.R_drewN | apply Kd.R_drew)); exact HO_361001.out) hb); have n1_ := Aside0.mk (Kd.R_below (by (with_reducible repeat (first | apply Kd.R_alloc | apply Kd.R_drewN | apply Kd.R_drew)); exact HO_366001.out) hb); have n2_ := Aside0.mk (Kd.R_below (by (with_reducible repeat (first | apply Kd.R_alloc | apply Kd.R_drewN | apply Kd.R_drew)); exact HO_372001.out) hb); have n3_ := Aside0.mk (blk_below (g := gb349) (o := .cells #[.int .i64 a0_0, .slice A0_1 l0_1.length c0_1] 34 (0, 0)) (by (with_reducible repeat (first | refine blk_drewN ?_ _ | refine blk_drew ?_ | refine blk_alloc ?_ _)); exact BK349.out) hb); have n4_ := Aside0.mk (blk_below (g := gb360) (o := .cells #[.int .i64 t355, .slice Ao22 t356.length co22] 41 (0, 0)) (by (with_reducible repeat (first | refine blk_drewN ?_ _ | refine blk_drew ?_ | refine blk_alloc ?_ _)); exact BK360.out) hb); have n5_ := Aside0.mk (blk_below (g := gb365) (o := .cells #[.int .i64 t361, .slice Ao29 t379.length co29] 41 (0, 0)) (by (with_reducible repeat (first | refine blk_drewN ?_ _ | refine blk_drew ?_ | refine blk_alloc ?_ _)); exact BK365.out) hb); have n6_ := Aside0.mk (blk_below (g := gb371) (o := .cells #[.int .i64 t366, .slice Ao36 t367.length co36] 41 (0, 0)) (by (with_reducible repeat (first | refine blk_drewN ?_ _ | refine blk_drew ?_ | refine blk_alloc ?_ _)); exact BK371.out) hb); have n7_ := Aside0.mk (below_step (by repeat (first | (with_reducible first | exact HB.out | apply below_alloc | apply pw_below_drewN | apply below_drew1 | refine below_set ?_ GE349.out | refine below_set ?_ GE360.out | refine below_set ?_ GE365.out | refine below_set ?_ GE371.out) | exact HB.out)) hb); clear HO_361001; clear HO_366001; clear HO_372001; clear BK349; clear BK360; clear BK365; clear BK371; clear HB; have HO_361001 := n0_; have HO_366001 := n1_; have HO_372001 := n2_; have BK349 := n3_; have BK360 := n4_; have BK365 := n5_; have BK371 := n6_; have HB := n7_; clear n0_ n1_ n2_ n3_ n4_ n5_ n6_ n7_; (try clear hb); (try clear hb2); (try clear hk); (try clear hi); have hnb111 := NB349_360.out; have hnc111 := NB360_349.out; have hnb112 := NB349_365.out; have hnc112 := NB365_349.out; have hcz113_0 : w110.cell? ⟨gb349, 0, none⟩ = some (.int .i64 a0_0) := (blk_cell BK349.out 0).trans rfl; have hcz113_1 : w110.cell? ⟨gb349, 1, none⟩ = some (.slice A0_1 l0_1.length c0_1) := (blk_cell BK349.out 1).trans rfl; have hfz113_0 := blk_frozen BK349.out 0; have hfz113_1 := blk_frozen BK349.out 1) | ((with_reducible refine gate_callee (f := 17) rfl ?_); refine goesL_ (some 75) rfl rfl Tryz.func17 (by kernel_rfl) rfl #[.agg #[.int .i64 a0_0, .slice A0_1 l0_1.length c0_1]] rfl (by (try simp only [List.map_toArray, List.map_cons, List.map_nil]); first | done | rfl | (simp only [List.length_drop, List.length_take]; rfl)) ?_; (with_reducible refine (laws_toPuzzle.calls kj59 a0_0 _ _ l0_1 t384 t385 _ ?side1 ?side2 A101.out).mono ?_); (case side1 => repeat (first | exact (Kd.C_below HR0_1.out HB.out) | (with_reducible refine Kd.C_alloc ?_ _) | (with_reducible refine Kd.C_drewN ?_ _) | (with_reducible refine Kd.C_drew ?_))); (case side2 => exact HC0_1.out); rintro e w114 ⟨v386, rfl, ho0, hb⟩; refine ⟨_, rfl, ?_⟩; have n0_ := Aside0.mk (Kd.R_elder' (by (with_reducible repeat (first | apply Kd.R_alloc | apply Kd.R_drewN | apply Kd.R_drew)); exact HO_361001.out) (Kd.R_base ho0) hb); have n1_ := Aside0.mk (Kd.R_elder' (by (with_reducible repeat (first | apply Kd.R_alloc | apply Kd.R_drewN | apply Kd.R_drew)); exact HO_366001.out) (Kd.R_base ho0) hb); have n2_ := Aside0.mk (Kd.R_elder' (by (with_reducible repeat (first | apply Kd.R_alloc | apply Kd.R_drewN | apply Kd.R_drew)); exact HO_372001.out) (Kd.R_base ho0) hb); have n3_ := Aside0.mk (Kd.R_lower (Kd.R_new' (Kd.R_new' (Kd.R_new' ho0 (Kd.R_lt (by (with_reducible repeat (first | apply Kd.R_alloc | apply Kd.R_drewN | apply Kd.R_drew)); exact HO_361001.out))) (Kd.R_lt (by (with_reducible repeat (first | apply Kd.R_alloc | apply Kd.R_drewN | apply Kd.R_drew)); exact HO_366001.out))) (Kd.R_lt (by (with_reducible repeat (first | apply Kd.R_alloc | apply Kd.R_drewN | apply Kd.R_drew)); exact HO_372001.out))) (below_size (by repeat (first | (with_reducible first | exact HB.out | apply below_alloc | apply pw_below_drewN | apply below_drew1 | refine below_set ?_ GE349.out | refine below_set ?_ GE360.out | refine below_set ?_ GE365.out | refine below_set ?_ GE371.out) | exact HB.out)))); have n4_ := Aside0.mk (blk_below (g := gb349) (o := .cells #[.int .i64 a0_0, .slice A0_1 l0_1.length c0_1] 34 (0, 0)) (by (with_reducible repeat (first | refine blk_drewN ?_ _ | refine blk_drew ?_ | refine blk_alloc ?_ _)); exact BK349.out) hb); have n5_ := Aside0.mk (blk_below (g := gb360) (o := .cells #[.int .i64 t355, .slice Ao22 t356.length co22] 41 (0, 0)) (by (with_reducible repeat (first | refine blk_drewN ?_ _ | refine blk_drew ?_ | refine blk_alloc ?_ _)); exact BK360.out) hb); have n6_ := Aside0.mk (blk_below (g := gb365) (o := .cells #[.int .i64 t361, .slice Ao29 t379.length co29] 41 (0, 0)) (by (with_reducible repeat (first | refine blk_drewN ?_ _ | refine blk_drew ?_ | refine blk_alloc ?_ _)); exact BK365.out) hb); have n7_ := Aside0.mk (blk_below (g := gb371) (o := .cells #[.int .i64 t366, .slice Ao36 t367.length co36] 41 (0, 0)) (by (with_reducible repeat (first | refine blk_drewN ?_ _ | refine blk_drew ?_ | refine blk_alloc ?_ _)); exact BK371.out) hb); have n8_ := Aside0.mk (below_step (by repeat (first | (with_reducible first | exact HB.out | apply below_alloc | apply pw_below_drewN | apply below_drew1 | refine below_set ?_ GE349.out | refine below_set ?_ GE360.out | refine below_set ?_ GE365.out | refine below_set ?_ GE371.out) | exact HB.out)) hb); clear HO_361001; clear HO_366001; clear HO_372001; clear BK349; clear BK360; clear BK365; clear BK371; clear HB; have HO_361001 := n0_; have HO_366001 := n1_; have HO_372001 := n2_; have HO387 := n3_; have BK349 := n4_; have BK360 := n5_; have BK365 := n6_; have BK371 := n7_; have HB := n8_; clear n0_ n1_ n2_ n3_ n4_ n5_ n6_ n7_ n8_; (try clear hb); (try clear hb2); (try clear hk); (try clear hi); (try clear ho0); obtain ⟨Ao115, co115, eo115⟩ := Kd.R_slice HO387.out; subst eo115) | ((with_reducible refine gate_callee (f := 25) rfl ?_); refine goesL_ (some 76) rfl rfl Tryz.func25 (by kernel_rfl) rfl #[.agg #[.int .i64 t384, .slice Ao115 t385.length co115]] rfl (by (try simp only [List.map_toArray, List.map_cons, List.map_nil]); first | done | rfl | (simp only [List.length_drop, List.length_take]; rfl)) ?_; (with_reducible refine (impl_HarderPuzzle.calls kj59 t384 _ _ t385 t388 t389 t392 _ ?side1 ?side2 A102.out).mono ?_); (case side1 => repeat (first | exact (Kd.R_reads' HO387.out).2.2 | (with_reducible refine Kd.C_alloc ?_ _) | (with_reducible refine Kd.C_drewN ?_ _) | (with_reducible refine Kd.C_drew ?_))); (case side2 => exact (Kd.R_reads' HO387.out).2.1); rintro e w116 ⟨v390, rfl, ho0, hb⟩; refine ⟨_, rfl, ?_⟩; have n0_ := Aside0.mk (Kd.R_elder' (by (with_reducible repeat (first | apply Kd.R_alloc | apply Kd.R_drewN | apply Kd.R_drew)); exact HO_361001.out) (Kd.R_base ho0) hb); have n1_ := Aside0.mk (Kd.R_elder' (by (with_reducible repeat (first | apply Kd.R_alloc | apply Kd.R_drewN | apply Kd.R_drew)); exact HO_366001.out) (Kd.R_base ho0) hb); have n2_ := Aside0.mk (Kd.R_elder' (by (with_reducible repeat (first | apply Kd.R_alloc | apply Kd.R_drewN | apply Kd.R_drew)); exact HO_372001.out) (Kd.R_base ho0) hb); have n3_ := Aside0.mk (Kd.R_elder' (by (with_reducible repeat (first | apply Kd.R_alloc | apply Kd.R_drewN | apply Kd.R_drew)); exact HO387.out) (Kd.R_base ho0) hb); have n4_ := Aside0.mk (Kd.R_lower (Kd.R_new' (Kd.R_new' (Kd.R_new' (Kd.R_new' ho0 (Kd.R_lt (by (with_reducible repeat (first | apply Kd.R_alloc | apply Kd.R_drewN | apply Kd.R_drew)); exact HO_361001.out))) (Kd.R_lt (by (with_reducible repeat (first | apply Kd.R_alloc | apply Kd.R_drewN | apply Kd.R_drew)); exact HO_366001.out))) (Kd.R_lt (by (with_reducible repeat (first | apply Kd.R_alloc | apply Kd.R_drewN | apply Kd.R_drew)); exact HO_372001.out))) (Kd.R_lt (by (with_reducible repeat (first | apply Kd.R_alloc | apply Kd.R_drewN | apply Kd.R_drew)); exact HO387.out))) (below_size (by repeat (first | (with_reducible first | exact HB.out | apply below_alloc | apply pw_below_drewN | apply below_drew1 | refine below_set ?_ GE349.out | refine below_set ?_ GE360.out | refine below_set ?_ GE365.out | refine below_set ?_ GE371.out) | exact HB.out)))); have n5_ := Aside0.mk (blk_below (g := gb349) (o := .cells #[.int .i64 a0_0, .slice A0_1 l0_1.length c0_1] 34 (0, 0)) (by (with_reducible repeat (first | refine blk_drewN ?_ _ | refine blk_drew ?_ | refine blk_alloc ?_ _)); exact BK349.out) hb); have n6_ := Aside0.mk (blk_below (g := gb360) (o := .cells #[.int .i64 t355, .slice Ao22 t356.length co22] 41 (0, 0)) (by (with_reducible repeat (first | refine blk_drewN ?_ _ | refine blk_drew ?_ | refine blk_alloc ?_ _)); exact BK360.out) hb); have n7_ := Aside0.mk (blk_below (g := gb365) (o := .cells #[.int .i64 t361, .slice Ao29 t379.length co29] 41 (0, 0)) (by (with_reducible repeat (first | refine blk_drewN ?_ _ | refine blk_drew ?_ | refine blk_alloc ?_ _)); exact BK365.out) hb); have n8_ := Aside0.mk (blk_below (g := gb371) (o := .cells #[.int .i64 t366, .slice Ao36 t367.length co36] 41 (0, 0)) (by (with_reducible repeat (first | refine blk_drewN ?_ _ | refine blk_drew ?_ | refine blk_alloc ?_ _)); exact BK371.out) hb); have n9_ := Aside0.mk (below_step (by repeat (first | (with_reducible first | exact HB.out | apply below_alloc | apply pw_below_drewN | apply below_drew1 | refine below_set ?_ GE349.out | refine below_set ?_ GE360.out | refine below_set ?_ GE365.out | refine below_set ?_ GE371.out) | exact HB.out)) hb); clear HO_361001; clear HO_366001; clear HO_372001; clear HO387; clear BK349; clear BK360; clear BK365; clear BK371; clear HB; have HO_361001 := n0_; have HO_366001 := n1_; have HO_372001 := n2_; have HO387 := n3_; have HO391 := n4_; have BK349 := n5_; have BK360 := n6_; have BK365 := n7_; have BK371 := n8_; have HB := n9_; clear n0_ n1_ n2_ n3_ n4_ n5_ n6_ n7_ n8_ n9_; (try clear hb); (try clear hb2); (try clear hk); (try clear hi); (try clear ho0)) | ((with_reducible refine gate_dst (N := 12) rfl ?_); refine box_event ?hg (N := 12) ?hd (cs := #[.int .i64 0, .slice none 0 0]) (t := 41) ?hr ?_; (case hd => rfl); (case hg => rfl); (case hr => first | (go_simp; done) | (go_simp; rfl)); intro gb393 hg w117 hbox hb; have n0_ := Aside0.mk (Kd.R_below (by (with_reducible repeat (first | apply Kd.R_alloc | apply Kd.R_drewN | apply Kd.R_drew)); exact HO_361001.out) hb); have n1_ := Aside0.mk (Kd.R_below (by (with_reducible repeat (first | apply Kd.R_alloc | apply Kd.R_drewN | apply Kd.R_drew)); exact HO_366001.out) hb); have n2_ := Aside0.mk (Kd.R_below (by (with_reducible repeat (first | apply Kd.R_alloc | apply Kd.R_drewN | apply Kd.R_drew)); exact HO_372001.out) hb); have n3_ := Aside0.mk (Kd.R_below (by (with_reducible repeat (first | apply Kd.R_alloc | apply Kd.R_drewN | apply Kd.R_drew)); exact HO387.out) hb); have n4_ := Aside0.mk (Kd.R_below (by (with_reducible repeat (first | apply Kd.R_alloc | apply Kd.R_drewN | apply Kd.R_drew)); exact HO391.out) hb); have n5_ := Aside0.mk (blk_below (g := gb349) (o := .cells #[.int .i64 a0_0, .slice A0_1 l0_1.length c0_1] 34 (0, 0)) (by (with_reducible repeat (first | refine blk_drewN ?_ _ | refine blk_drew ?_ | refine blk_alloc ?_ _)); exact BK349.out) hb); have n6_ := Aside0.mk (blk_below (g := gb360) (o := .cells #[.int .i64 t355, .slice Ao22 t356.length co22] 41 (0, 0)) (by (with_reducible repeat (first | refine blk_drewN ?_ _ | refine blk_drew ?_ | refine blk_alloc ?_ _)); exact BK360.out) hb); have n7_ := Aside0.mk (blk_below (g := gb365) (o := .cells #[.int .i64 t361, .slice Ao29 t379.length co29] 41 (0, 0)) (by (with_reducible repeat (first | refine blk_drewN ?_ _ | refine blk_drew ?_ | refine blk_alloc ?_ _)); exact BK365.out) hb); have n8_ := Aside0.mk (blk_below (g := gb371) (o := .cells #[.int .i64 t366, .slice Ao36 t367.length co36] 41 (0, 0)) (by (with_reducible repeat (first | refine blk_drewN ?_ _ | refine blk_drew ?_ | refine blk_alloc ?_ _)); exact BK371.out) hb); have n9_ := Aside0.mk (below_step (by repeat (first | (with_reducible first | exact HB.out | apply below_alloc | apply pw_below_drewN | apply below_drew1 | refine below_set ?_ GE349.out | refine below_set ?_ GE360.out | refine below_set ?_ GE365.out | refine below_set ?_ GE371.out) | exact HB.out)) hb); have n10_ := Aside0.mk (hbox); have n11_ := Aside0.mk ((by rw [hg]; exact (below_size (by repeat (first | (with_reducible first | exact HB.out | apply below_alloc | apply pw_below_drewN | apply below_drew1 | refine below_set ?_ GE349.out | refine below_set ?_ GE360.out | refine below_set ?_ GE365.out | refine below_set ?_ GE371.out) | exact HB.out))) : w.heap.size ≤ gb393)); have n12_ := Aside0.mk ((by rw [hg]; exact (below_size (by repeat (first | (with_reducible first | exact HB.out | apply below_alloc | apply pw_below_drewN | apply below_drew1 | refine below_set ?_ GE349.out | refine below_set ?_ GE360.out | refine below_set ?_ GE365.out | refine below_set ?_ GE371.out) | exact HB.out))) : w.heap.size ≤ gb393)); have n13_ := Aside0.mk ((by rw [hg]; exact Nat.ne_of_lt (blk_lt (g := gb349) (o := .cells #[.int .i64 a0_0, .slice A0_1 l0_1.length c0_1] 34 (0, 0)) (by (with_reducible repeat (first | refine blk_drewN ?_ _ | refine blk_drew ?_ | refine blk_alloc ?_ _)); exact BK349.out)) : gb349 ≠ gb393)); have n14_ := Aside0.mk ((by rw [hg]; exact Nat.ne_of_gt (blk_lt (g := gb349) (o := .cells #[.int .i64 a0_0, .slice A0_1 l0_1.length c0_1] 34 (0, 0)) (by (with_reducible repeat (first | refine blk_drewN ?_ _ | refine blk_drew ?_ | refine blk_alloc ?_ _)); exact BK349.out)) : gb393 ≠ gb349)); have n15_ := Aside0.mk ((by rw [hg]; exact Nat.ne_of_lt (blk_lt (g := gb360) (o := .cells #[.int .i64 t355, .slice Ao22 t356.length co22] 41 (0, 0)) (by (with_reducible repeat (first | refine blk_drewN ?_ _ | refine blk_drew ?_ | refine blk_alloc ?_ _)); exact BK360.out)) : gb360 ≠ gb393)); have n16_ := Aside0.mk ((by rw [hg]; exact Nat.ne_of_gt (blk_lt (g := gb360) (o := .cells #[.int .i64 t355, .slice Ao22 t356.length co22] 41 (0, 0)) (by (with_reducible repeat (first | refine blk_drewN ?_ _ | refine blk_drew ?_ | refine blk_alloc ?_ _)); exact BK360.out)) : gb393 ≠ gb360)); have n17_ := Aside0.mk ((by rw [hg]; exact Nat.ne_of_lt (blk_lt (g := gb365) (o := .cells #[.int .i64 t361, .slice Ao29 t379.length co29] 41 (0, 0)) (by (with_reducible repeat (first | refine blk_drewN ?_ _ | refine blk_drew ?_ | refine blk_alloc ?_ _)); exact BK365.out)) : gb365 ≠ gb393)); have n18_ := Aside0.mk ((by rw [hg]; exact Nat.ne_of_gt (blk_lt (g := gb365) (o := .cells #[.int .i64 t361, .slice Ao29 t379.length co29] 41 (0, 0)) (by (with_reducible repeat (first | refine blk_drewN ?_ _ | refine blk_drew ?_ | refine blk_alloc ?_ _)); exact BK365.out)) : gb393 ≠ gb365)); have n19_ := Aside0.mk ((by rw [hg]; exact Nat.ne_of_lt (blk_lt (g := gb371) (o := .cells #[.int .i64 t366, .slice Ao36 t367.length co36] 41 (0, 0)) (by (with_reducible repeat (first | refine blk_drewN ?_ _ | refine blk_drew ?_ | refine blk_alloc ?_ _)); exact BK371.out)) : gb371 ≠ gb393)); have n20_ := Aside0.mk ((by rw [hg]; exact Nat.ne_of_gt (blk_lt (g := gb371) (o := .cells #[.int .i64 t366, .slice Ao36 t367.length co36] 41 (0, 0)) (by (with_reducible repeat (first | refine blk_drewN ?_ _ | refine blk_drew ?_ | refine blk_alloc ?_ _)); exact BK371.out)) : gb393 ≠ gb371)); clear HO_361001; clear HO_366001; clear HO_372001; clear HO387; clear HO391; clear BK349; clear BK360; clear BK365; clear BK371; clear HB; have HO_361001 := n0_; have HO_366001 := n1_; have HO_372001 := n2_; have HO387 := n3_; have HO391 := n4_; have BK349 := n5_; have BK360 := n6_; have BK365 := n7_; have BK371 := n8_; have HB := n9_; have BK393 := n10_; have GW393 := n11_; have GE393 := n12_; have NB349_393 := n13_; have NB393_349 := n14_; have NB360_393 := n15_; have NB393_360 := n16_; have NB365_393 := n17_; have NB393_365 := n18_; have NB371_393 := n19_; have NB393_371 := n20_; clear n0_ n1_ n2_ n3_ n4_ n5_ n6_ n7_ n8_ n9_ n10_ n11_ n12_ n13_ n14_ n15_ n16_ n17_ n18_ n19_ n20_; clear hb hbox hg; have hnb118 := NB393_349.out; have hnc118 := NB349_393.out; have hnb119 := NB393_360.out; have hnc119 := NB360_393.out; have hnb120 := NB393_365.out; have hnc120 := NB365_393.out; have hnb121 := NB393_371.out; have hnc121 := NB371_393.out; have hcz122_0 : w117.cell? ⟨gb393, 0, none⟩ = some (.int .i64 0) := (blk_cell BK393.out 0).trans rfl; have hcz122_1 : w117.cell? ⟨gb393, 1, none⟩ = some (.slice none 0 0) := (blk_cell BK393.out 1).trans rfl; have hfz122_0 := blk_frozen BK393.out 0; have hfz122_1 := blk_frozen BK393.out 1; obtain ⟨Ao123, co123, eo123⟩ := Kd.R_slice HO391.out; subst eo123))
           (try simp only [Act.put, List.setIfInBounds_toArray, List.set_cons_zero, List.set_cons_succ])
           go_cut [87] (fun v87 wc => ∃ (kq : Nat) (x87_102 : Bool), v87 = .bool x87_102 ∧ Aside0 (laws_FnExactHarderPuzzle.j2 kq t381 x87_102 t366 t382 = some r) ∧ Aside0 (kq ≤ kj59) ∧ Aside0 (Kd.R k86 86 wc w.heap.size (fun k_ => some k_ ≠ ((.slice Ao29 t379.length co29) : Value).ownBlock ∧ some k_ ≠ ((.slice Ao36 t367.length co36) : Value).ownBlock ∧ some k_ ≠ ((.slice Ao123 t389.length co123) : Value).ownBlock) (.slice Ao22 t356.length co22) t356) ∧ Aside0 (Kd.R k86 86 wc w.heap.size (fun k_ => some k_ ≠ ((.slice Ao22 t356.length co22) : Value).ownBlock ∧ some k_ ≠ ((.slice Ao36 t367.length co36) : Value).ownBlock ∧ some k_ ≠ ((.slice Ao123 t389.length co123) : Value).ownBlock) (.slice Ao29 t379.length co29) t379) ∧ Aside0 (Kd.R k86 86 wc w.heap.size (fun k_ => some k_ ≠ ((.slice Ao22 t356.length co22) : Value).ownBlock ∧ some k_ ≠ ((.slice Ao29 t379.length co29) : Value).ownBlock ∧ some k_ ≠ ((.slice Ao123 t389.length co123) : Value).ownBlock) (.slice Ao36 t367.length co36) t382) ∧ Aside0 (Kd.R k86 86 wc w.heap.size (fun k_ => some k_ ≠ ((.slice Ao22 t356.length co22) : Value).ownBlock ∧ some k_ ≠ ((.slice Ao29 t379.length co29) : Value).ownBlock ∧ some k_ ≠ ((.slice Ao36 t367.length co36) : Value).ownBlock) (.slice Ao123 t389.length co123) t389) ∧ Aside0 (wc.heap[gb349]? = some (.cells #[.int .i64 a0_0, (.slice A0_1 l0_1.length c0_1)] 34 (0, 0))) ∧ Aside0 (wc.heap[gb360]? = some (.cells #[.int .i64 t355, (.slice Ao22 t356.length co22)] 41 (0, 0))) ∧ Aside0 (wc.heap[gb365]? = some (.cells #[.int .i64 t361, (.slice Ao29 t379.length co29)] 41 (0, 0))) ∧ Aside0 (wc.heap[gb371]? = some (.cells #[.int .i64 t366, (.slice Ao36 t367.length co36)] 41 (0, 0))) ∧ Aside0 (wc.heap[gb393]? = some (.cells #[.int .i64 t388, (.slice Ao123 t389.length co123)] 41 (0, 0))) ∧ Aside0 (Below w.heap.size w wc))
           case first =>
            have H := HC103.out
            clear HC103
            replace H := Option.bind_eq_some_iff.mp H
            obtain ⟨t394, A1240, H⟩ := H
            replace H : (if t394 = true then (laws_FnExactHarderPuzzle.j2 kj59 t381 (t392 != t359) t366 t382) else (laws_FnExactHarderPuzzle.j2 kj59 t381 true t366 t382)) = some r := H
            have A124 := Aside0.mk A1240
            clear A1240
            by_cases c125 : t394 = true
            ·subst c125
             have H1 : (laws_FnExactHarderPuzzle.j2 kj59 t381 (t392 != t359) t366 t382) = some r := by rw [if_pos rfl] at H; exact H
             clear H
             have H := H1
             clear H1
             have H' := Aside0.mk H
             clear H
             have hnb126 := NB393_349.out
             have hnc126 := NB349_393.out
             have hnb127 := NB393_360.out
             have hnc127 := NB360_393.out
             have hnb128 := NB393_365.out
             have hnc128 := NB365_393.out
             have hnb129 := NB393_371.out
             have hnc129 := NB371_393.out
             have hcz130_0 : w117.cell? ⟨gb393, 0, none⟩ = some (.int .i64 0) := (blk_cell BK393.out 0).trans rfl
             have hcz130_1 : w117.cell? ⟨gb393, 1, none⟩ = some (.slice none 0 0) := (blk_cell BK393.out 1).trans rfl
             have hfz130_0 := blk_frozen BK393.out 0
             have hfz130_1 := blk_frozen BK393.out 1
             have hnb131 := NB360_349.out
             have hnc131 := NB349_360.out
             have hnb132 := NB360_365.out
             have hnc132 := NB365_360.out
             have hnb133 := NB360_371.out
             have hnc133 := NB371_360.out
             have hcz134_0 : w117.cell? ⟨gb360, 0, none⟩ = some (.int .i64 t355) := (blk_cell BK360.out 0).trans rfl
             have hcz134_1 : w117.cell? ⟨gb360, 1, none⟩ = some (.slice Ao22 t356.length co22) := (blk_cell BK360.out 1).trans rfl
             have hfz134_0 := blk_frozen BK360.out 0
             have hfz134_1 := blk_frozen BK360.out 1
             go_wp2_with (first | ((with_reducible refine gate_callee (f := 20) rfl ?_); refine goesL_ (some 81) rfl rfl Tryz.func20 (by kernel_rfl) rfl #[.agg #[.int .i64 t388, .slice Ao123 t389.length co123], .agg #[.int .i64 t355, .slice Ao22 t356.length co22]] rfl (by (try simp only [List.map_toArray, List.map_cons, List.map_nil]); first | done | rfl | (simp only [List.length_drop, List.length_take]; rfl)) ?_; (with_reducible refine (laws_eqPuzzle.calls kj59 t388 _ _ t389 t355 _ _ t356 true _ ?side1 ?side2 ?side3 ?side4 A124.out).mono ?_); (case side1 => refine (Kd.R_reads' (e := 86) (base := w.heap.size) (ok := fun k_ => ((((True ∧ some k_ ≠ (.slice Ao22 t356.length co22 : Value).ownBlock) ∧ some k_ ≠ (.slice Ao29 t379.length co29 : Value).ownBlock) ∧ some k_ ≠ (.slice Ao36 t367.length co36 : Value).ownBlock) ∧ some k_ ≠ (.slice Ao115 t385.length co115 : Value).ownBlock)) (n := t389.length) (c := co123) ?_).2.2; exact (by (with_reducible repeat (first | apply Kd.R_alloc | apply Kd.R_drewN | apply Kd.R_drew)); exact (Kd.R_mono (Kd.R_far (p := ⟨gb393, 1, none⟩) (Kd.R_far (p := ⟨gb393, 0, none⟩) (Kd.R_types HO391.out BK393.out (by decide)) (fun _ hk => hk.2) (.int .i64 t388)) (fun _ hk => hk.2) (.slice Ao123 t389.length co123)) (fun _ h_ => h_.1)))); (case side2 => exact (Kd.R_reads' HO391.out).2.1); (case side3 => refine (Kd.R_reads' (e := 86) (base := w.heap.size) (ok := fun k_ => (((some k_ ≠ (.slice Ao29 t379.length co29 : Value).ownBlock ∧ some k_ ≠ (.slice Ao36 t367.length co36 : Value).ownBlock) ∧ some k_ ≠ (.slice Ao115 t385.length co115 : Value).ownBlock) ∧ some k_ ≠ (.slice Ao123 t389.length co123 : Value).ownBlock)) (n := t356.length) (c := co22) ?_).2.2; exact (by (with_reducible repeat (first | apply Kd.R_alloc | apply Kd.R_drewN | apply Kd.R_drew)); exact (Kd.R_mono (Kd.R_far (p := ⟨gb393, 1, none⟩) (Kd.R_far (p := ⟨gb393, 0, none⟩) (Kd.R_types HO_361001.out BK393.out (by decide)) (fun _ hk => hk.2) (.int .i64 t388)) (fun _ hk => hk.2) (.slice Ao123 t389.length co123)) (fun _ h_ => h_.1)))); (case side4 => exact (Kd.R_reads' HO_361001.out).2.1); rintro e w135 ⟨rfl, hb⟩; refine ⟨_, rfl, ?_⟩; have n0_ := Aside0.mk (Kd.R_below (by (with_reducible repeat (first | apply Kd.R_alloc | apply Kd.R_drewN | apply Kd.R_drew)); exact (Kd.R_mono (Kd.R_far (p := ⟨gb393, 1, none⟩) (Kd.R_far (p := ⟨gb393, 0, none⟩) (Kd.R_types HO_361001.out BK393.out (by decide)) (fun _ hk => hk.2) (.int .i64 t388)) (fun _ hk => hk.2) (.slice Ao123 t389.length co123)) (fun _ h_ => h_.1))) hb); have n1_ := Aside0.mk (Kd.R_below (by (with_reducible repeat (first | apply Kd.R_alloc | apply Kd.R_drewN | apply Kd.R_drew)); exact (Kd.R_mono (Kd.R_far (p := ⟨gb393, 1, none⟩) (Kd.R_far (p := ⟨gb393, 0, none⟩) (Kd.R_types HO_366001.out BK393.out (by decide)) (fun _ hk => hk.2) (.int .i64 t388)) (fun _ hk => hk.2) (.slice Ao123 t389.length co123)) (fun _ h_ => h_.1))) hb); have n2_ := Aside0.mk (Kd.R_below (by (with_reducible repeat (first | apply Kd.R_alloc | apply Kd.R_drewN | apply Kd.R_drew)); exact (Kd.R_mono (Kd.R_far (p := ⟨gb393, 1, none⟩) (Kd.R_far (p := ⟨gb393, 0, none⟩) (Kd.R_types HO_372001.out BK393.out (by decide)) (fun _ hk => hk.2) (.int .i64 t388)) (fun _ hk => hk.2) (.slice Ao123 t389.length co123)) (fun _ h_ => h_.1))) hb); have n3_ := Aside0.mk (Kd.R_below (by (with_reducible repeat (first | apply Kd.R_alloc | apply Kd.R_drewN | apply Kd.R_drew)); exact (Kd.R_mono (Kd.R_far (p := ⟨gb393, 1, none⟩) (Kd.R_far (p := ⟨gb393, 0, none⟩) (Kd.R_types HO387.out BK393.out (by decide)) (fun _ hk => hk.2) (.int .i64 t388)) (fun _ hk => hk.2) (.slice Ao123 t389.length co123)) (fun _ h_ => h_.1))) hb); have n4_ := Aside0.mk (Kd.R_below (by (with_reducible repeat (first | apply Kd.R_alloc | apply Kd.R_drewN | apply Kd.R_drew)); exact (Kd.R_mono (Kd.R_far (p := ⟨gb393, 1, none⟩) (Kd.R_far (p := ⟨gb393, 0, none⟩) (Kd.R_types HO391.out BK393.out (by decide)) (fun _ hk => hk.2) (.int .i64 t388)) (fun _ hk => hk.2) (.slice Ao123 t389.length co123)) (fun _ h_ => h_.1))) hb); have n5_ := Aside0.mk (blk_below (g := gb349) (o := .cells #[.int .i64 a0_0, .slice A0_1 l0_1.length c0_1] 34 (0, 0)) (by (with_reducible repeat (first | refine blk_drewN ?_ _ | refine blk_drew ?_ | refine blk_alloc ?_ _)); refine blk_far ?_ NB349_393.out _; (with_reducible repeat (first | refine blk_drewN ?_ _ | refine blk_drew ?_ | refine blk_alloc ?_ _)); refine blk_far ?_ NB349_393.out _; (with_reducible repeat (first | refine blk_drewN ?_ _ | refine blk_drew ?_ | refine blk_alloc ?_ _)); exact BK349.out) hb); have n6_ := Aside0.mk (blk_below (g := gb360) (o := .cells #[.int .i64 t355, .slice Ao22 t356.length co22] 41 (0, 0)) (by (with_reducible repeat (first | refine blk_drewN ?_ _ | refine blk_drew ?_ | refine blk_alloc ?_ _)); refine blk_far ?_ NB360_393.out _; (with_reducible repeat (first | refine blk_drewN ?_ _ | refine blk_drew ?_ | refine blk_alloc ?_ _)); refine blk_far ?_ NB360_393.out _; (with_reducible repeat (first | refine blk_drewN ?_ _ | refine blk_drew ?_ | refine blk_alloc ?_ _)); exact BK360.out) hb); have n7_ := Aside0.mk (blk_below (g := gb365) (o := .cells #[.int .i64 t361, .slice Ao29 t379.length co29] 41 (0, 0)) (by (with_reducible repeat (first | refine blk_drewN ?_ _ | refine blk_drew ?_ | refine blk_alloc ?_ _)); refine blk_far ?_ NB365_393.out _; (with_reducible repeat (first | refine blk_drewN ?_ _ | refine blk_drew ?_ | refine blk_alloc ?_ _)); refine blk_far ?_ NB365_393.out _; (with_reducible repeat (first | refine blk_drewN ?_ _ | refine blk_drew ?_ | refine blk_alloc ?_ _)); exact BK365.out) hb); have n8_ := Aside0.mk (blk_below (g := gb371) (o := .cells #[.int .i64 t366, .slice Ao36 t367.length co36] 41 (0, 0)) (by (with_reducible repeat (first | refine blk_drewN ?_ _ | refine blk_drew ?_ | refine blk_alloc ?_ _)); refine blk_far ?_ NB371_393.out _; (with_reducible repeat (first | refine blk_drewN ?_ _ | refine blk_drew ?_ | refine blk_alloc ?_ _)); refine blk_far ?_ NB371_393.out _; (with_reducible repeat (first | refine blk_drewN ?_ _ | refine blk_drew ?_ | refine blk_alloc ?_ _)); exact BK371.out) hb); have n9_ := Aside0.mk (blk_below (g := gb393) (o := .cells #[.int .i64 t388, .slice Ao123 t389.length co123] 41 (0, 0)) (by (with_reducible repeat (first | refine blk_drewN ?_ _ | refine blk_drew ?_ | refine blk_alloc ?_ _)); refine blk_put (cs := #[.int .i64 t388, .slice none 0 0]) ?_ 1 _ rfl; (with_reducible repeat (first | refine blk_drewN ?_ _ | refine blk_drew ?_ | refine blk_alloc ?_ _)); refine blk_put (cs := #[.int .i64 0, .slice none 0 0]) ?_ 0 _ rfl; (with_reducible repeat (first | refine blk_drewN ?_ _ | refine blk_drew ?_ | refine blk_alloc ?_ _)); exact BK393.out) hb); have n10_ := Aside0.mk (below_step (by repeat (first | (with_reducible first | exact HB.out | apply below_alloc | apply pw_below_drewN | apply below_drew1 | refine below_set ?_ GE349.out | refine below_set ?_ GE360.out | refine below_set ?_ GE365.out | refine below_set ?_ GE371.out | refine below_set ?_ GE393.out) | exact HB.out)) hb); clear HO_361001; clear HO_366001; clear HO_372001; clear HO387; clear HO391; clear BK349; clear BK360; clear BK365; clear BK371; clear BK393; clear HB; have HO_361001 := n0_; have HO_366001 := n1_; have HO_372001 := n2_; have HO387 := n3_; have HO391 := n4_; have BK349 := n5_; have BK360 := n6_; have BK365 := n7_; have BK371 := n8_; have BK393 := n9_; have HB := n10_; clear n0_ n1_ n2_ n3_ n4_ n5_ n6_ n7_ n8_ n9_ n10_; (try clear hb); (try clear hb2); (try clear hk); (try clear hi)))
             go_meet
             case rel => exact ⟨_, ((t392 != t359)), (by first | rfl | (simp; done) | (simp [*]; done)), H', ⟨by have := HJ10.out; have := HJ59.out; first | omega | exact Nat.le_refl _⟩, ⟨by (try simp only [hl366001_59]); (with_reducible repeat (first | apply Kd.R_alloc | apply Kd.R_drewN | apply Kd.R_drew)); exact Kd.R_mono HO_361001.out (fun _ hk => ⟨hk.1.1.1, ⟨hk.1.1.2, hk.2⟩⟩)⟩, ⟨by (try simp only [hl366001_59]); (with_reducible repeat (first | apply Kd.R_alloc | apply Kd.R_drewN | apply Kd.R_drew)); exact Kd.R_mono HO_366001.out (fun _ hk => ⟨hk.1.1.1, ⟨hk.1.1.2, hk.2⟩⟩)⟩, ⟨by (try simp only [hl366001_59]); (with_reducible repeat (first | apply Kd.R_alloc | apply Kd.R_drewN | apply Kd.R_drew)); exact Kd.R_mono HO_372001.out (fun _ hk => ⟨hk.1.1.1, ⟨hk.1.1.2, hk.2⟩⟩)⟩, ⟨by (try simp only [hl366001_59]); (with_reducible repeat (first | apply Kd.R_alloc | apply Kd.R_drewN | apply Kd.R_drew)); exact Kd.R_mono HO391.out (fun _ hk => ⟨hk.1.1.1.2, ⟨hk.1.1.2, hk.1.2⟩⟩)⟩, ⟨by (try simp only [hl366001_59]); (with_reducible repeat (first | refine blk_drewN ?_ _ | refine blk_drew ?_ | refine blk_alloc ?_ _)); exact BK349.out⟩, ⟨by (try simp only [hl366001_59]); (with_reducible repeat (first | refine blk_drewN ?_ _ | refine blk_drew ?_ | refine blk_alloc ?_ _)); exact BK360.out⟩, ⟨by (try simp only [hl366001_59]); (with_reducible repeat (first | refine blk_drewN ?_ _ | refine blk_drew ?_ | refine blk_alloc ?_ _)); exact BK365.out⟩, ⟨by (try simp only [hl366001_59]); (with_reducible repeat (first | refine blk_drewN ?_ _ | refine blk_drew ?_ | refine blk_alloc ?_ _)); exact BK371.out⟩, ⟨by (try simp only [hl366001_59]); (with_reducible repeat (first | refine blk_drewN ?_ _ | refine blk_drew ?_ | refine blk_alloc ?_ _)); exact BK393.out⟩, ⟨by repeat (first | (with_reducible first | exact HB.out | apply below_alloc | apply pw_below_drewN | apply below_drew1 | refine below_set ?_ GE349.out | refine below_set ?_ GE360.out | refine below_set ?_ GE365.out | refine below_set ?_ GE371.out | refine below_set ?_ GE393.out) | exact HB.out)⟩⟩
            ·replace c125 := Bool.eq_false_iff.mpr c125
             subst c125
             have H1 : (laws_FnExactHarderPuzzle.j2 kj59 t381 true t366 t382) = some r := by rw [if_neg (show ¬ (false = true) by decide)] at H; exact H
             clear H
             have H := H1
             clear H1
             have H' := Aside0.mk H
             clear H
             have hnb136 := NB393_349.out
             have hnc136 := NB349_393.out
             have hnb137 := NB393_360.out
             have hnc137 := NB360_393.out
             have hnb138 := NB393_365.out
             have hnc138 := NB365_393.out
             have hnb139 := NB393_371.out
             have hnc139 := NB371_393.out
             have hcz140_0 : w117.cell? ⟨gb393, 0, none⟩ = some (.int .i64 0) := (blk_cell BK393.out 0).trans rfl
             have hcz140_1 : w117.cell? ⟨gb393, 1, none⟩ = some (.slice none 0 0) := (blk_cell BK393.out 1).trans rfl
             have hfz140_0 := blk_frozen BK393.out 0
             have hfz140_1 := blk_frozen BK393.out 1
             have hnb141 := NB360_349.out
             have hnc141 := NB349_360.out
             have hnb142 := NB360_365.out
             have hnc142 := NB365_360.out
             have hnb143 := NB360_371.out
             have hnc143 := NB371_360.out
             have hcz144_0 : w117.cell? ⟨gb360, 0, none⟩ = some (.int .i64 t355) := (blk_cell BK360.out 0).trans rfl
             have hcz144_1 : w117.cell? ⟨gb360, 1, none⟩ = some (.slice Ao22 t356.length co22) := (blk_cell BK360.out 1).trans rfl
             have hfz144_0 := blk_frozen BK360.out 0
             have hfz144_1 := blk_frozen BK360.out 1
             go_wp2_with (first | ((with_reducible refine gate_callee (f := 20) rfl ?_); refine goesL_ (some 81) rfl rfl Tryz.func20 (by kernel_rfl) rfl #[.agg #[.int .i64 t388, .slice Ao123 t389.length co123], .agg #[.int .i64 t355, .slice Ao22 t356.length co22]] rfl (by (try simp only [List.map_toArray, List.map_cons, List.map_nil]); first | done | rfl | (simp only [List.length_drop, List.length_take]; rfl)) ?_; (with_reducible refine (laws_eqPuzzle.calls kj59 t388 _ _ t389 t355 _ _ t356 false _ ?side1 ?side2 ?side3 ?side4 A124.out).mono ?_); (case side1 => refine (Kd.R_reads' (e := 86) (base := w.heap.size) (ok := fun k_ => ((((True ∧ some k_ ≠ (.slice Ao22 t356.length co22 : Value).ownBlock) ∧ some k_ ≠ (.slice Ao29 t379.length co29 : Value).ownBlock) ∧ some k_ ≠ (.slice Ao36 t367.length co36 : Value).ownBlock) ∧ some k_ ≠ (.slice Ao115 t385.length co115 : Value).ownBlock)) (n := t389.length) (c := co123) ?_).2.2; exact (by (with_reducible repeat (first | apply Kd.R_alloc | apply Kd.R_drewN | apply Kd.R_drew)); exact (Kd.R_mono (Kd.R_far (p := ⟨gb393, 1, none⟩) (Kd.R_far (p := ⟨gb393, 0, none⟩) (Kd.R_types HO391.out BK393.out (by decide)) (fun _ hk => hk.2) (.int .i64 t388)) (fun _ hk => hk.2) (.slice Ao123 t389.length co123)) (fun _ h_ => h_.1)))); (case side2 => exact (Kd.R_reads' HO391.out).2.1); (case side3 => refine (Kd.R_reads' (e := 86) (base := w.heap.size) (ok := fun k_ => (((some k_ ≠ (.slice Ao29 t379.length co29 : Value).ownBlock ∧ some k_ ≠ (.slice Ao36 t367.length co36 : Value).ownBlock) ∧ some k_ ≠ (.slice Ao115 t385.length co115 : Value).ownBlock) ∧ some k_ ≠ (.slice Ao123 t389.length co123 : Value).ownBlock)) (n := t356.length) (c := co22) ?_).2.2; exact (by (with_reducible repeat (first | apply Kd.R_alloc | apply Kd.R_drewN | apply Kd.R_drew)); exact (Kd.R_mono (Kd.R_far (p := ⟨gb393, 1, none⟩) (Kd.R_far (p := ⟨gb393, 0, none⟩) (Kd.R_types HO_361001.out BK393.out (by decide)) (fun _ hk => hk.2) (.int .i64 t388)) (fun _ hk => hk.2) (.slice Ao123 t389.length co123)) (fun _ h_ => h_.1)))); (case side4 => exact (Kd.R_reads' HO_361001.out).2.1); rintro e w145 ⟨rfl, hb⟩; refine ⟨_, rfl, ?_⟩; have n0_ := Aside0.mk (Kd.R_below (by (with_reducible repeat (first | apply Kd.R_alloc | apply Kd.R_drewN | apply Kd.R_drew)); exact (Kd.R_mono (Kd.R_far (p := ⟨gb393, 1, none⟩) (Kd.R_far (p := ⟨gb393, 0, none⟩) (Kd.R_types HO_361001.out BK393.out (by decide)) (fun _ hk => hk.2) (.int .i64 t388)) (fun _ hk => hk.2) (.slice Ao123 t389.length co123)) (fun _ h_ => h_.1))) hb); have n1_ := Aside0.mk (Kd.R_below (by (with_reducible repeat (first | apply Kd.R_alloc | apply Kd.R_drewN | apply Kd.R_drew)); exact (Kd.R_mono (Kd.R_far (p := ⟨gb393, 1, none⟩) (Kd.R_far (p := ⟨gb393, 0, none⟩) (Kd.R_types HO_366001.out BK393.out (by decide)) (fun _ hk => hk.2) (.int .i64 t388)) (fun _ hk => hk.2) (.slice Ao123 t389.length co123)) (fun _ h_ => h_.1))) hb); have n2_ := Aside0.mk (Kd.R_below (by (with_reducible repeat (first | apply Kd.R_alloc | apply Kd.R_drewN | apply Kd.R_drew)); exact (Kd.R_mono (Kd.R_far (p := ⟨gb393, 1, none⟩) (Kd.R_far (p := ⟨gb393, 0, none⟩) (Kd.R_types HO_372001.out BK393.out (by decide)) (fun _ hk => hk.2) (.int .i64 t388)) (fun _ hk => hk.2) (.slice Ao123 t389.length co123)) (fun _ h_ => h_.1))) hb); have n3_ := Aside0.mk (Kd.R_below (by (with_reducible repeat (first | apply Kd.R_alloc | apply Kd.R_drewN | apply Kd.R_drew)); exact (Kd.R_mono (Kd.R_far (p := ⟨gb393, 1, none⟩) (Kd.R_far (p := ⟨gb393, 0, none⟩) (Kd.R_types HO387.out BK393.out (by decide)) (fun _ hk => hk.2) (.int .i64 t388)) (fun _ hk => hk.2) (.slice Ao123 t389.length co123)) (fun _ h_ => h_.1))) hb); have n4_ := Aside0.mk (Kd.R_below (by (with_reducible repeat (first | apply Kd.R_alloc | apply Kd.R_drewN | apply Kd.R_drew)); exact (Kd.R_mono (Kd.R_far (p := ⟨gb393, 1, none⟩) (Kd.R_far (p := ⟨gb393, 0, none⟩) (Kd.R_types HO391.out BK393.out (by decide)) (fun _ hk => hk.2) (.int .i64 t388)) (fun _ hk => hk.2) (.slice Ao123 t389.length co123)) (fun _ h_ => h_.1))) hb); have n5_ := Aside0.mk (blk_below (g := gb349) (o := .cells #[.int .i64 a0_0, .slice A0_1 l0_1.length c0_1] 34 (0, 0)) (by (with_reducible repeat (first | refine blk_drewN ?_ _ | refine blk_drew ?_ | refine blk_alloc ?_ _)); refine blk_far ?_ NB349_393.out _; (with_reducible repeat (first | refine blk_drewN ?_ _ | refine blk_drew ?_ | refine blk_alloc ?_ _)); refine blk_far ?_ NB349_393.out _; (with_reducible repeat (first | refine blk_drewN ?_ _ | refine blk_drew ?_ | refine blk_alloc ?_ _)); exact BK349.out) hb); have n6_ := Aside0.mk (blk_below (g := gb360) (o := .cells #[.int .i64 t355, .slice Ao22 t356.length co22] 41 (0, 0)) (by (with_reducible repeat (first | refine blk_drewN ?_ _ | refine blk_drew ?_ | refine blk_alloc ?_ _)); refine blk_far ?_ NB360_393.out _; (with_reducible repeat (first | refine blk_drewN ?_ _ | refine blk_drew ?_ | refine blk_alloc ?_ _)); refine blk_far ?_ NB360_393.out _; (with_reducible repeat (first | refine blk_drewN ?_ _ | refine blk_drew ?_ | refine blk_alloc ?_ _)); exact BK360.out) hb); have n7_ := Aside0.mk (blk_below (g := gb365) (o := .cells #[.int .i64 t361, .slice Ao29 t379.length co29] 41 (0, 0)) (by (with_reducible repeat (first | refine blk_drewN ?_ _ | refine blk_drew ?_ | refine blk_alloc ?_ _)); refine blk_far ?_ NB365_393.out _; (with_reducible repeat (first | refine blk_drewN ?_ _ | refine blk_drew ?_ | refine blk_alloc ?_ _)); refine blk_far ?_ NB365_393.out _; (with_reducible repeat (first | refine blk_drewN ?_ _ | refine blk_drew ?_ | refine blk_alloc ?_ _)); exact BK365.out) hb); have n8_ := Aside0.mk (blk_below (g := gb371) (o := .cells #[.int .i64 t366, .slice Ao36 t367.length co36] 41 (0, 0)) (by (with_reducible repeat (first | refine blk_drewN ?_ _ | refine blk_drew ?_ | refine blk_alloc ?_ _)); refine blk_far ?_ NB371_393.out _; (with_reducible repeat (first | refine blk_drewN ?_ _ | refine blk_drew ?_ | refine blk_alloc ?_ _)); refine blk_far ?_ NB371_393.out _; (with_reducible repeat (first | refine blk_drewN ?_ _ | refine blk_drew ?_ | refine blk_alloc ?_ _)); exact BK371.out) hb); have n9_ := Aside0.mk (blk_below (g := gb393) (o := .cells #[.int .i64 t388, .slice Ao123 t389.length co123] 41 (0, 0)) (by (with_reducible repeat (first | refine blk_drewN ?_ _ | refine blk_drew ?_ | refine blk_alloc ?_ _)); refine blk_put (cs := #[.int .i64 t388, .slice none 0 0]) ?_ 1 _ rfl; (with_reducible repeat (first | refine blk_drewN ?_ _ | refine blk_drew ?_ | refine blk_alloc ?_ _)); refine blk_put (cs := #[.int .i64 0, .slice none 0 0]) ?_ 0 _ rfl; (with_reducible repeat (first | refine blk_drewN ?_ _ | refine blk_drew ?_ | refine blk_alloc ?_ _)); exact BK393.out) hb); have n10_ := Aside0.mk (below_step (by repeat (first | (with_reducible first | exact HB.out | apply below_alloc | apply pw_below_drewN | apply below_drew1 | refine below_set ?_ GE349.out | refine below_set ?_ GE360.out | refine below_set ?_ GE365.out | refine below_set ?_ GE371.out | refine below_set ?_ GE393.out) | exact HB.out)) hb); clear HO_361001; clear HO_366001; clear HO_372001; clear HO387; clear HO391; clear BK349; clear BK360; clear BK365; clear BK371; clear BK393; clear HB; have HO_361001 := n0_; have HO_366001 := n1_; have HO_372001 := n2_; have HO387 := n3_; have HO391 := n4_; have BK349 := n5_; have BK360 := n6_; have BK365 := n7_; have BK371 := n8_; have BK393 := n9_; have HB := n10_; clear n0_ n1_ n2_ n3_ n4_ n5_ n6_ n7_ n8_ n9_ n10_; (try clear hb); (try clear hb2); (try clear hk); (try clear hi)))
             go_meet
             case rel => exact ⟨_, (true), (by first | rfl | (simp; done) | (simp [*]; done)), H', ⟨by have := HJ10.out; have := HJ59.out; first | omega | exact Nat.le_refl _⟩, ⟨by (try simp only [hl366001_59]); (with_reducible repeat (first | apply Kd.R_alloc | apply Kd.R_drewN | apply Kd.R_drew)); exact Kd.R_mono HO_361001.out (fun _ hk => ⟨hk.1.1.1, ⟨hk.1.1.2, hk.2⟩⟩)⟩, ⟨by (try simp only [hl366001_59]); (with_reducible repeat (first | apply Kd.R_alloc | apply Kd.R_drewN | apply Kd.R_drew)); exact Kd.R_mono HO_366001.out (fun _ hk => ⟨hk.1.1.1, ⟨hk.1.1.2, hk.2⟩⟩)⟩, ⟨by (try simp only [hl366001_59]); (with_reducible repeat (first | apply Kd.R_alloc | apply Kd.R_drewN | apply Kd.R_drew)); exact Kd.R_mono HO_372001.out (fun _ hk => ⟨hk.1.1.1, ⟨hk.1.1.2, hk.2⟩⟩)⟩, ⟨by (try simp only [hl366001_59]); (with_reducible repeat (first | apply Kd.R_alloc | apply Kd.R_drewN | apply Kd.R_drew)); exact Kd.R_mono HO391.out (fun _ hk => ⟨hk.1.1.1.2, ⟨hk.1.1.2, hk.1.2⟩⟩)⟩, ⟨by (try simp only [hl366001_59]); (with_reducible repeat (first | refine blk_drewN ?_ _ | refine blk_drew ?_ | refine blk_alloc ?_ _)); exact BK349.out⟩, ⟨by (try simp only [hl366001_59]); (with_reducible repeat (first | refine blk_drewN ?_ _ | refine blk_drew ?_ | refine blk_alloc ?_ _)); exact BK360.out⟩, ⟨by (try simp only [hl366001_59]); (with_reducible repeat (first | refine blk_drewN ?_ _ | refine blk_drew ?_ | refine blk_alloc ?_ _)); exact BK365.out⟩, ⟨by (try simp only [hl366001_59]); (with_reducible repeat (first | refine blk_drewN ?_ _ | refine blk_drew ?_ | refine blk_alloc ?_ _)); exact BK371.out⟩, ⟨by (try simp only [hl366001_59]); (with_reducible repeat (first | refine blk_drewN ?_ _ | refine blk_drew ?_ | refine blk_alloc ?_ _)); exact BK393.out⟩, ⟨by repeat (first | (with_reducible first | exact HB.out | apply below_alloc | apply pw_below_drewN | apply below_drew1 | refine below_set ?_ GE349.out | refine below_set ?_ GE360.out | refine below_set ?_ GE365.out | refine below_set ?_ GE371.out | refine below_set ?_ GE393.out) | exact HB.out)⟩⟩
           case rest =>
            clear HC103
            try clear c1
            try clear c2
            try clear p2
            try clear c3
            try clear c3b0
            try clear c4
            try clear c5
            try clear c6
            try clear c7
            try clear c8
            try clear c9
            try clear c10
            try clear c11
            try clear c12
            try clear c13
            try clear c14
            try clear c15
            try clear c17
            try clear c20
            try clear c21
            try clear c24
            try clear c25
            try clear c26
            try clear c27
            try clear c32
            try clear c33
            try clear c34
            try clear c38
            try clear c39
            try clear c40
            try clear c41
            try clear c43
            try clear c44
            try clear c47
            try clear c48
            try clear c49
            try clear c51
            try clear c52
            try clear c55
            try clear c58
            try clear c65
            try clear c66
            try clear c67
            try clear c70
            try clear c70b0
            try clear c72
            try clear c73
            try clear c74
            try clear c75
            try clear c77
            try clear c78
            try clear c81
            try clear c82
            try clear c83
            try clear c85
            try clear c86
            try clear c89
            try clear c92
            try clear c92b0
            try clear c93
            try clear c94
            try clear c95
            try clear c100
            try clear c100b0
            try clear c100b1
            try clear c104
            try clear c105
            try clear c106
            try clear c111
            try clear c112
            try clear c118
            try clear c119
            try clear c120
            try clear c121
            try clear c125
            try clear c126
            try clear c127
            try clear c128
            try clear c129
            try clear c131
            try clear c132
            try clear c133
            try clear c136
            try clear c137
            try clear c138
            try clear c139
            try clear c141
            try clear c142
            try clear c143
            try clear hcz107_0
            try clear hcz107_1
            try clear hcz109_0
            try clear hcz109_1
            try clear hcz113_0
            try clear hcz113_1
            try clear hcz122_0
            try clear hcz122_1
            try clear hcz130_0
            try clear hcz130_1
            try clear hcz134_0
            try clear hcz134_1
            try clear hcz13_0
            try clear hcz13_1
            try clear hcz140_0
            try clear hcz140_1
            try clear hcz144_0
            try clear hcz144_1
            try clear hcz15_0
            try clear hcz15_1
            try clear hcz21_0
            try clear hcz21_1
            try clear hcz23_0
            try clear hcz23_1
            try clear hcz28_0
            try clear hcz28_1
            try clear hcz35_0
            try clear hcz35_1
            try clear hcz42_0
            try clear hcz42_1
            try clear hcz45_0
            try clear hcz45_1
            try clear hcz50_0
            try clear hcz50_1
            try clear hcz53_0
            try clear hcz53_1
            try clear hcz5_0
            try clear hcz5_1
            try clear hcz68_0
            try clear hcz68_1
            try clear hcz76_0
            try clear hcz76_1
            try clear hcz79_0
            try clear hcz79_1
            try clear hcz84_0
            try clear hcz84_1
            try clear hcz87_0
            try clear hcz87_1
            try clear hcz96_0
            try clear hcz96_1
            try clear hcz98_0
            try clear hcz98_1
            try clear hfz107_0
            try clear hfz107_1
            try clear hfz109_0
            try clear hfz109_1
            try clear hfz113_0
            try clear hfz113_1
            try clear hfz122_0
            try clear hfz122_1
            try clear hfz130_0
            try clear hfz130_1
            try clear hfz134_0
            try clear hfz134_1
            try clear hfz13_0
            try clear hfz13_1
            try clear hfz140_0
            try clear hfz140_1
            try clear hfz144_0
            try clear hfz144_1
            try clear hfz15_0
            try clear hfz15_1
            try clear hfz21_0
            try clear hfz21_1
            try clear hfz23_0
            try clear hfz23_1
            try clear hfz28_0
            try clear hfz28_1
            try clear hfz35_0
            try clear hfz35_1
            try clear hfz42_0
            try clear hfz42_1
            try clear hfz45_0
            try clear hfz45_1
            try clear hfz50_0
            try clear hfz50_1
            try clear hfz53_0
            try clear hfz53_1
            try clear hfz5_0
            try clear hfz5_1
            try clear hfz68_0
            try clear hfz68_1
            try clear hfz76_0
            try clear hfz76_1
            try clear hfz79_0
            try clear hfz79_1
            try clear hfz84_0
            try clear hfz84_1
            try clear hfz87_0
            try clear hfz87_1
            try clear hfz96_0
            try clear hfz96_1
            try clear hfz98_0
            try clear hfz98_1
            try clear p2
            obtain ⟨kq, x87_102, rfl, HA, HJ102, HO_361001, HO_366001, HO_372001, HO_394001, BK349, BK360, BK365, BK371, BK393, HB⟩ := hcut
            have hl372001_102 := (Kd.R_reads' HO_372001.out).1
            rw [hl372001_102] at HO_372001
            (try simp only [hl372001_102])
            (try simp only [hl372001_102] at BK349)
            (try simp only [hl372001_102] at BK360)
            (try simp only [hl372001_102] at BK365)
            (try simp only [hl372001_102] at BK371)
            (try simp only [hl372001_102] at BK393)
            (try simp only [hl372001_102] at HO_361001)
            (try simp only [hl372001_102] at HO_366001)
            (try simp only [hl372001_102] at HO_394001)
            cases kq with
            | zero => exact absurd HA.out (by simp [laws_FnExactHarderPuzzle.j2])
            | succ kj102 =>
             have H := HA.out
             clear HA
             simp only [laws_FnExactHarderPuzzle.j2] at H
             by_cases c146 : x87_102 = true
             ·subst c146
              have H1 : (some false) = some r := by rw [if_pos rfl] at H; exact H
              clear H
              have H := H1
              clear H1
              obtain rfl := Option.some.inj H
              go_wp2
              go_ret
              exact ⟨by first | rfl | (simp [errW_none, errW_some] <;> rfl) | (simp [*, errW_none, errW_some] <;> rfl), by repeat (first | (with_reducible first | exact HB.out | apply below_alloc | apply pw_below_drewN | apply below_drew1 | refine below_set ?_ GE349.out | refine below_set ?_ GE360.out | refine below_set ?_ GE365.out | refine below_set ?_ GE371.out | refine below_set ?_ GE393.out) | exact HB.out)⟩
             ·replace c146 := Bool.eq_false_iff.mpr c146
              subst c146
              have H1 : ((laws_heldPuzzle.f kj102 t366 t382 1).bind fun t395 => (if t395 < 0 then (some false) else (if t395 = t381 then (some true) else (some false)))) = some r := by rw [if_neg (show ¬ (false = true) by decide)] at H; exact H
              clear H
              have H := H1
              clear H1
              replace H := Option.bind_eq_some_iff.mp H
              obtain ⟨t395, A1470, H⟩ := H
              replace H : (if t395 < 0 then (some false) else (if t395 = t381 then (some true) else (some false))) = some r := H
              have A147 := Aside0.mk A1470
              clear A1470
              by_cases c148 : t395 < 0
              ·rw [if_pos c148] at H
               have c148b0 : decide (t395 < 0) = true := decide_eq_true c148
               clear c148
               obtain rfl := Option.some.inj H
               have hnb149 := NB371_349.out
               have hnc149 := NB349_371.out
               have hnb150 := NB371_360.out
               have hnc150 := NB360_371.out
               have hnb151 := NB371_365.out
               have hnc151 := NB365_371.out
               have hnb152 := NB371_393.out
               have hnc152 := NB393_371.out
               have hcz153_0 : wc.cell? ⟨gb371, 0, none⟩ = some (.int .i64 t366) := (blk_cell BK371.out 0).trans rfl
               have hcz153_1 : wc.cell? ⟨gb371, 1, none⟩ = some (.slice Ao36 t382.length co36) := (blk_cell BK371.out 1).trans rfl
               have hfz153_0 := blk_frozen BK371.out 0
               have hfz153_1 := blk_frozen BK371.out 1
               go_wp2_with (first | ((with_reducible refine gate_callee (f := 26) rfl ?_); refine goesL_ (some 90) rfl rfl Tryz.func26 (by kernel_rfl) rfl #[.agg #[.int .i64 t366, .slice Ao36 t382.length co36], .int .i64 1] rfl (by (try simp only [List.map_toArray, List.map_cons, List.map_nil]); first | done | rfl | (simp only [List.length_drop, List.length_take]; rfl)) ?_; (with_reducible refine (laws_heldPuzzle.calls kj102 t366 _ _ t382 1 t395 _ ?side1 ?side2 A147.out).mono ?_); (case side1 => repeat (first | exact (Kd.R_reads' HO_372001.out).2.2 | (with_reducible refine Kd.C_alloc ?_ _) | (with_reducible refine Kd.C_drewN ?_ _) | (with_reducible refine Kd.C_drew ?_))); (case side2 => exact (Kd.R_reads' HO_372001.out).2.1); rintro e w154 ⟨rfl, hb⟩; refine ⟨_, rfl, ?_⟩; have n0_ := Aside0.mk (Kd.R_below (by (with_reducible repeat (first | apply Kd.R_alloc | apply Kd.R_drewN | apply Kd.R_drew)); exact HO_361001.out) hb); have n1_ := Aside0.mk (Kd.R_below (by (with_reducible repeat (first | apply Kd.R_alloc | apply Kd.R_drewN | apply Kd.R_drew)); exact HO_366001.out) hb); have n2_ := Aside0.mk (Kd.R_below (by (with_reducible repeat (first | apply Kd.R_alloc | apply Kd.R_drewN | apply Kd.R_drew)); exact HO_372001.out) hb); have n3_ := Aside0.mk (Kd.R_below (by (with_reducible repeat (first | apply Kd.R_alloc | apply Kd.R_drewN | apply Kd.R_drew)); exact HO_394001.out) hb); have n4_ := Aside0.mk (blk_below (g := gb349) (o := .cells #[.int .i64 a0_0, .slice A0_1 l0_1.length c0_1] 34 (0, 0)) (by (with_reducible repeat (first | refine blk_drewN ?_ _ | refine blk_drew ?_ | refine blk_alloc ?_ _)); exact BK349.out) hb); have n5_ := Aside0.mk (blk_below (g := gb360) (o := .cells #[.int .i64 t355, .slice Ao22 t356.length co22] 41 (0, 0)) (by (with_reducible repeat (first | refine blk_drewN ?_ _ | refine blk_drew ?_ | refine blk_alloc ?_ _)); exact BK360.out) hb); have n6_ := Aside0.mk (blk_below (g := gb365) (o := .cells #[.int .i64 t361, .slice Ao29 t379.length co29] 41 (0, 0)) (by (with_reducible repeat (first | refine blk_drewN ?_ _ | refine blk_drew ?_ | refine blk_alloc ?_ _)); exact BK365.out) hb); have n7_ := Aside0.mk (blk_below (g := gb371) (o := .cells #[.int .i64 t366, .slice Ao36 t382.length co36] 41 (0, 0)) (by (with_reducible repeat (first | refine blk_drewN ?_ _ | refine blk_drew ?_ | refine blk_alloc ?_ _)); exact BK371.out) hb); have n8_ := Aside0.mk (blk_below (g := gb393) (o := .cells #[.int .i64 t388, .slice Ao123 t389.length co123] 41 (0, 0)) (by (with_reducible repeat (first | refine blk_drewN ?_ _ | refine blk_drew ?_ | refine blk_alloc ?_ _)); exact BK393.out) hb); have n9_ := Aside0.mk (below_step (by repeat (first | (with_reducible first | exact HB.out | apply below_alloc | apply pw_below_drewN | apply below_drew1 | refine below_set ?_ GE349.out | refine below_set ?_ GE360.out | refine below_set ?_ GE365.out | refine below_set ?_ GE371.out | refine below_set ?_ GE393.out) | exact HB.out)) hb); clear HO_361001; clear HO_366001; clear HO_372001; clear HO_394001; clear BK349; clear BK360; clear BK365; clear BK371; clear BK393; clear HB; have HO_361001 := n0_; have HO_366001 := n1_; have HO_372001 := n2_; have HO_394001 := n3_; have BK349 := n4_; have BK360 := n5_; have BK365 := n6_; have BK371 := n7_; have BK393 := n8_; have HB := n9_; clear n0_ n1_ n2_ n3_ n4_ n5_ n6_ n7_ n8_ n9_; (try clear hb); (try clear hb2); (try clear hk); (try clear hi)))
               go_ret
               exact ⟨by first | rfl | (simp [errW_none, errW_some] <;> rfl) | (simp [*, errW_none, errW_some] <;> rfl), by repeat (first | (with_reducible first | exact HB.out | apply below_alloc | apply pw_below_drewN | apply below_drew1 | refine below_set ?_ GE349.out | refine below_set ?_ GE360.out | refine below_set ?_ GE365.out | refine below_set ?_ GE371.out | refine below_set ?_ GE393.out) | exact HB.out)⟩
              ·rw [if_neg c148] at H
               have c148b0 : decide (t395 < 0) = false := decide_eq_false c148
               clear c148
               by_cases c155 : t395 = t381
               ·rw [if_pos c155] at H
                have c155b0 : (t395 == t381) = true := beq_iff_eq.mpr c155
                have c155b1 : (t395 != t381) = false := bne_eq_false_iff_eq.mpr c155
                clear c155
                obtain rfl := Option.some.inj H
                have hnb156 := NB371_349.out
                have hnc156 := NB349_371.out
                have hnb157 := NB371_360.out
                have hnc157 := NB360_371.out
                have hnb158 := NB371_365.out
                have hnc158 := NB365_371.out
                have hnb159 := NB371_393.out
                have hnc159 := NB393_371.out
                have hcz160_0 : wc.cell? ⟨gb371, 0, none⟩ = some (.int .i64 t366) := (blk_cell BK371.out 0).trans rfl
                have hcz160_1 : wc.cell? ⟨gb371, 1, none⟩ = some (.slice Ao36 t382.length co36) := (blk_cell BK371.out 1).trans rfl
                have hfz160_0 := blk_frozen BK371.out 0
                have hfz160_1 := blk_frozen BK371.out 1
                go_wp2_with (first | ((with_reducible refine gate_callee (f := 26) rfl ?_); refine goesL_ (some 90) rfl rfl Tryz.func26 (by kernel_rfl) rfl #[.agg #[.int .i64 t366, .slice Ao36 t382.length co36], .int .i64 1] rfl (by (try simp only [List.map_toArray, List.map_cons, List.map_nil]); first | done | rfl | (simp only [List.length_drop, List.length_take]; rfl)) ?_; (with_reducible refine (laws_heldPuzzle.calls kj102 t366 _ _ t382 1 t395 _ ?side1 ?side2 A147.out).mono ?_); (case side1 => repeat (first | exact (Kd.R_reads' HO_372001.out).2.2 | (with_reducible refine Kd.C_alloc ?_ _) | (with_reducible refine Kd.C_drewN ?_ _) | (with_reducible refine Kd.C_drew ?_))); (case side2 => exact (Kd.R_reads' HO_372001.out).2.1); rintro e w161 ⟨rfl, hb⟩; refine ⟨_, rfl, ?_⟩; have n0_ := Aside0.mk (Kd.R_below (by (with_reducible repeat (first | apply Kd.R_alloc | apply Kd.R_drewN | apply Kd.R_drew)); exact HO_361001.out) hb); have n1_ := Aside0.mk (Kd.R_below (by (with_reducible repeat (first | apply Kd.R_alloc | apply Kd.R_drewN | apply Kd.R_drew)); exact HO_366001.out) hb); have n2_ := Aside0.mk (Kd.R_below (by (with_reducible repeat (first | apply Kd.R_alloc | apply Kd.R_drewN | apply Kd.R_drew)); exact HO_372001.out) hb); have n3_ := Aside0.mk (Kd.R_below (by (with_reducible repeat (first | apply Kd.R_alloc | apply Kd.R_drewN | apply Kd.R_drew)); exact HO_394001.out) hb); have n4_ := Aside0.mk (blk_below (g := gb349) (o := .cells #[.int .i64 a0_0, .slice A0_1 l0_1.length c0_1] 34 (0, 0)) (by (with_reducible repeat (first | refine blk_drewN ?_ _ | refine blk_drew ?_ | refine blk_alloc ?_ _)); exact BK349.out) hb); have n5_ := Aside0.mk (blk_below (g := gb360) (o := .cells #[.int .i64 t355, .slice Ao22 t356.length co22] 41 (0, 0)) (by (with_reducible repeat (first | refine blk_drewN ?_ _ | refine blk_drew ?_ | refine blk_alloc ?_ _)); exact BK360.out) hb); have n6_ := Aside0.mk (blk_below (g := gb365) (o := .cells #[.int .i64 t361, .slice Ao29 t379.length co29] 41 (0, 0)) (by (with_reducible repeat (first | refine blk_drewN ?_ _ | refine blk_drew ?_ | refine blk_alloc ?_ _)); exact BK365.out) hb); have n7_ := Aside0.mk (blk_below (g := gb371) (o := .cells #[.int .i64 t366, .slice Ao36 t382.length co36] 41 (0, 0)) (by (with_reducible repeat (first | refine blk_drewN ?_ _ | refine blk_drew ?_ | refine blk_alloc ?_ _)); exact BK371.out) hb); have n8_ := Aside0.mk (blk_below (g := gb393) (o := .cells #[.int .i64 t388, .slice Ao123 t389.length co123] 41 (0, 0)) (by (with_reducible repeat (first | refine blk_drewN ?_ _ | refine blk_drew ?_ | refine blk_alloc ?_ _)); exact BK393.out) hb); have n9_ := Aside0.mk (below_step (by repeat (first | (with_reducible first | exact HB.out | apply below_alloc | apply pw_below_drewN | apply below_drew1 | refine below_set ?_ GE349.out | refine below_set ?_ GE360.out | refine below_set ?_ GE365.out | refine below_set ?_ GE371.out | refine below_set ?_ GE393.out) | exact HB.out)) hb); clear HO_361001; clear HO_366001; clear HO_372001; clear HO_394001; clear BK349; clear BK360; clear BK365; clear BK371; clear BK393; clear HB; have HO_361001 := n0_; have HO_366001 := n1_; have HO_372001 := n2_; have HO_394001 := n3_; have BK349 := n4_; have BK360 := n5_; have BK365 := n6_; have BK371 := n7_; have BK393 := n8_; have HB := n9_; clear n0_ n1_ n2_ n3_ n4_ n5_ n6_ n7_ n8_ n9_; (try clear hb); (try clear hb2); (try clear hk); (try clear hi)))
                go_ret
                exact ⟨by first | rfl | (simp [errW_none, errW_some] <;> rfl) | (simp [*, errW_none, errW_some] <;> rfl), by repeat (first | (with_reducible first | exact HB.out | apply below_alloc | apply pw_below_drewN | apply below_drew1 | refine below_set ?_ GE349.out | refine below_set ?_ GE360.out | refine below_set ?_ GE365.out | refine below_set ?_ GE371.out | refine below_set ?_ GE393.out) | exact HB.out)⟩
               ·rw [if_neg c155] at H
                have c155b0 : (t395 == t381) = false := beq_eq_false_iff_ne.mpr c155
                have c155b1 : (t395 != t381) = true := bne_iff_ne.mpr c155
                obtain rfl := Option.some.inj H
                have hnb162 := NB371_349.out
                have hnc162 := NB349_371.out
                have hnb163 := NB371_360.out
                have hnc163 := NB360_371.out
                have hnb164 := NB371_365.out
                have hnc164 := NB365_371.out
                have hnb165 := NB371_393.out
                have hnc165 := NB393_371.out
                have hcz166_0 : wc.cell? ⟨gb371, 0, none⟩ = some (.int .i64 t366) := (blk_cell BK371.out 0).trans rfl
                have hcz166_1 : wc.cell? ⟨gb371, 1, none⟩ = some (.slice Ao36 t382.length co36) := (blk_cell BK371.out 1).trans rfl
                have hfz166_0 := blk_frozen BK371.out 0
                have hfz166_1 := blk_frozen BK371.out 1
                go_wp2_with (first | ((with_reducible refine gate_callee (f := 26) rfl ?_); refine goesL_ (some 90) rfl rfl Tryz.func26 (by kernel_rfl) rfl #[.agg #[.int .i64 t366, .slice Ao36 t382.length co36], .int .i64 1] rfl (by (try simp only [List.map_toArray, List.map_cons, List.map_nil]); first | done | rfl | (simp only [List.length_drop, List.length_take]; rfl)) ?_; (with_reducible refine (laws_heldPuzzle.calls kj102 t366 _ _ t382 1 t395 _ ?side1 ?side2 A147.out).mono ?_); (case side1 => repeat (first | exact (Kd.R_reads' HO_372001.out).2.2 | (with_reducible refine Kd.C_alloc ?_ _) | (with_reducible refine Kd.C_drewN ?_ _) | (with_reducible refine Kd.C_drew ?_))); (case side2 => exact (Kd.R_reads' HO_372001.out).2.1); rintro e w167 ⟨rfl, hb⟩; refine ⟨_, rfl, ?_⟩; have n0_ := Aside0.mk (Kd.R_below (by (with_reducible repeat (first | apply Kd.R_alloc | apply Kd.R_drewN | apply Kd.R_drew)); exact HO_361001.out) hb); have n1_ := Aside0.mk (Kd.R_below (by (with_reducible repeat (first | apply Kd.R_alloc | apply Kd.R_drewN | apply Kd.R_drew)); exact HO_366001.out) hb); have n2_ := Aside0.mk (Kd.R_below (by (with_reducible repeat (first | apply Kd.R_alloc | apply Kd.R_drewN | apply Kd.R_drew)); exact HO_372001.out) hb); have n3_ := Aside0.mk (Kd.R_below (by (with_reducible repeat (first | apply Kd.R_alloc | apply Kd.R_drewN | apply Kd.R_drew)); exact HO_394001.out) hb); have n4_ := Aside0.mk (blk_below (g := gb349) (o := .cells #[.int .i64 a0_0, .slice A0_1 l0_1.length c0_1] 34 (0, 0)) (by (with_reducible repeat (first | refine blk_drewN ?_ _ | refine blk_drew ?_ | refine blk_alloc ?_ _)); exact BK349.out) hb); have n5_ := Aside0.mk (blk_below (g := gb360) (o := .cells #[.int .i64 t355, .slice Ao22 t356.length co22] 41 (0, 0)) (by (with_reducible repeat (first | refine blk_drewN ?_ _ | refine blk_drew ?_ | refine blk_alloc ?_ _)); exact BK360.out) hb); have n6_ := Aside0.mk (blk_below (g := gb365) (o := .cells #[.int .i64 t361, .slice Ao29 t379.length co29] 41 (0, 0)) (by (with_reducible repeat (first | refine blk_drewN ?_ _ | refine blk_drew ?_ | refine blk_alloc ?_ _)); exact BK365.out) hb); have n7_ := Aside0.mk (blk_below (g := gb371) (o := .cells #[.int .i64 t366, .slice Ao36 t382.length co36] 41 (0, 0)) (by (with_reducible repeat (first | refine blk_drewN ?_ _ | refine blk_drew ?_ | refine blk_alloc ?_ _)); exact BK371.out) hb); have n8_ := Aside0.mk (blk_below (g := gb393) (o := .cells #[.int .i64 t388, .slice Ao123 t389.length co123] 41 (0, 0)) (by (with_reducible repeat (first | refine blk_drewN ?_ _ | refine blk_drew ?_ | refine blk_alloc ?_ _)); exact BK393.out) hb); have n9_ := Aside0.mk (below_step (by repeat (first | (with_reducible first | exact HB.out | apply below_alloc | apply pw_below_drewN | apply below_drew1 | refine below_set ?_ GE349.out | refine below_set ?_ GE360.out | refine below_set ?_ GE365.out | refine below_set ?_ GE371.out | refine below_set ?_ GE393.out) | exact HB.out)) hb); clear HO_361001; clear HO_366001; clear HO_372001; clear HO_394001; clear BK349; clear BK360; clear BK365; clear BK371; clear BK393; clear HB; have HO_361001 := n0_; have HO_366001 := n1_; have HO_372001 := n2_; have HO_394001 := n3_; have BK349 := n4_; have BK360 := n5_; have BK365 := n6_; have BK371 := n7_; have BK393 := n8_; have HB := n9_; clear n0_ n1_ n2_ n3_ n4_ n5_ n6_ n7_ n8_ n9_; (try clear hb); (try clear hb2); (try clear hk); (try clear hi)))
                go_ret
                exact ⟨by first | rfl | (simp [errW_none, errW_some] <;> rfl) | (simp [*, errW_none, errW_some] <;> rfl), by repeat (first | (with_reducible first | exact HB.out | apply below_alloc | apply pw_below_drewN | apply below_drew1 | refine below_set ?_ GE349.out | refine below_set ?_ GE360.out | refine below_set ?_ GE365.out | refine below_set ?_ GE371.out | refine below_set ?_ GE393.out) | exact HB.out)⟩
          ·rw [if_neg c100] at H
           have c100b0 : (t383 == t381) = false := beq_eq_false_iff_ne.mpr c100
           have c100b1 : (t383 != t381) = true := bne_iff_ne.mpr c100
           obtain rfl := Option.some.inj H
           have hnb168 := NB371_349.out
           have hnc168 := NB349_371.out
           have hnb169 := NB371_360.out
           have hnc169 := NB360_371.out
           have hnb170 := NB371_365.out
           have hnc170 := NB365_371.out
           have hcz171_0 : wc.cell? ⟨gb371, 0, none⟩ = some (.int .i64 t366) := (blk_cell BK371.out 0).trans rfl
           have hcz171_1 : wc.cell? ⟨gb371, 1, none⟩ = some (.slice Ao36 t367.length co36) := (blk_cell BK371.out 1).trans rfl
           have hfz171_0 := blk_frozen BK371.out 0
           have hfz171_1 := blk_frozen BK371.out 1
           go_wp2_with (first | ((with_reducible refine gate_callee (f := 21) rfl ?_); refine goesL_ (some 64) rfl rfl Tryz.func21 (by kernel_rfl) rfl #[.agg #[.int .i64 t366, .slice Ao36 t367.length co36], .int .i64 1] rfl (by (try simp only [List.map_toArray, List.map_cons, List.map_nil]); first | done | rfl | (simp only [List.length_drop, List.length_take]; rfl)) ?_; (with_reducible refine (laws_markPuzzle.calls kj59 t366 (fun k_ => some k_ = (.slice Ao36 t367.length co36 : Value).ownBlock) (.slice Ao36 t367.length co36) t367 1 t381 t382 w _ ?side1 ?side2 A90.out).mono ?_); (case side1 => repeat (first | (with_reducible first | exact HB.out | apply below_alloc | apply pw_below_drewN | apply below_drew1 | refine below_set ?_ GE349.out | refine below_set ?_ GE360.out | refine below_set ?_ GE365.out | refine below_set ?_ GE371.out) | exact HB.out)); (case side2 => exact Kd.R_tight rfl HO_372001.out); rintro e w172 ⟨rfl, hy0, hb, hkp⟩; refine ⟨_, rfl, ?_⟩; have n0_ := Aside0.mk (Kd.R_mono (ok' := fun k_ => some k_ ≠ (.slice Ao29 t379.length co29 : Value).ownBlock ∧ some k_ ≠ (.slice Ao36 t367.length co36 : Value).ownBlock) (Kd.R_keptB (HO_361001.out) hkp (fun k_ hk_ hs_ => (hk_.2) hs_)) (fun k_ hk_ => ⟨hk_.1.1, hk_.1.2⟩)); have n1_ := Aside0.mk (Kd.R_mono (ok' := fun k_ => some k_ ≠ (.slice Ao22 t356.length co22 : Value).ownBlock ∧ some k_ ≠ (.slice Ao36 t367.length co36 : Value).ownBlock) (Kd.R_keptB (HO_366001.out) hkp (fun k_ hk_ hs_ => (hk_.2) hs_)) (fun k_ hk_ => ⟨hk_.1.1, hk_.1.2⟩)); have n2_ := Aside0.mk (Kd.R_reok rfl hy0 (fun k_ e_ => HO_372001.out.1 k_ e_)); have n3_ := Aside0.mk (blk_kept (by (with_reducible repeat (first | refine blk_drewN ?_ _ | refine blk_drew ?_ | refine blk_alloc ?_ _)); exact BK349.out) hkp (fun hs_ => (fun e_ => (Kd.R_ne HO_372001.out BK349.out (by decide)) e_) hs_)); have n4_ := Aside0.mk (blk_kept (by (with_reducible repeat (first | refine blk_drewN ?_ _ | refine blk_drew ?_ | refine blk_alloc ?_ _)); exact BK360.out) hkp (fun hs_ => (fun e_ => (Kd.R_ne HO_372001.out BK360.out (by decide)) e_) hs_)); have n5_ := Aside0.mk (blk_kept (by (with_reducible repeat (first | refine blk_drewN ?_ _ | refine blk_drew ?_ | refine blk_alloc ?_ _)); exact BK365.out) hkp (fun hs_ => (fun e_ => (Kd.R_ne HO_372001.out BK365.out (by decide)) e_) hs_)); have n6_ := Aside0.mk (blk_kept (by (with_reducible repeat (first | refine blk_drewN ?_ _ | refine blk_drew ?_ | refine blk_alloc ?_ _)); exact BK371.out) hkp (fun hs_ => (fun e_ => (Kd.R_ne HO_372001.out BK371.out (by decide)) e_) hs_)); have n7_ := Aside0.mk (hb); clear HO_361001; clear HO_366001; clear HO_372001; clear BK349; clear BK360; clear BK365; clear BK371; clear HB; have HO_361001 := n0_; have HO_366001 := n1_; have HO_372001 := n2_; have BK349 := n3_; have BK360 := n4_; have BK365 := n5_; have BK371 := n6_; have HB := n7_; clear n0_ n1_ n2_ n3_ n4_ n5_ n6_ n7_; (try clear hb); (try clear hkp); (try clear hy0); have hcz173_0 : w172.cell? ⟨gb371, 0, none⟩ = some (.int .i64 t366) := (blk_cell BK371.out 0).trans rfl; have hcz173_1 : w172.cell? ⟨gb371, 1, none⟩ = some (.slice Ao36 t367.length co36) := (blk_cell BK371.out 1).trans rfl; have hfz173_0 := blk_frozen BK371.out 0; have hfz173_1 := blk_frozen BK371.out 1) | ((with_reducible refine gate_callee (f := 26) rfl ?_); refine goesL_ (some 67) rfl rfl Tryz.func26 (by kernel_rfl) rfl #[.agg #[.int .i64 t366, .slice Ao36 t382.length co36], .int .i64 1] rfl (by (try simp only [List.map_toArray, List.map_cons, List.map_nil]); first | done | (rw [show t382.length = t367.length from (Kd.R_reads' HO_372001.out).1.symm] <;> rfl) | rfl | (simp only [List.length_drop, List.length_take]; rfl)) ?_; (with_reducible refine (laws_heldPuzzle.calls kj59 t366 _ _ t382 1 t383 _ ?side1 ?side2 A91.out).mono ?_); (case side1 => repeat (first | exact (Kd.R_reads' HO_372001.out).2.2 | (with_reducible refine Kd.C_alloc ?_ _) | (with_reducible refine Kd.C_drewN ?_ _) | (with_reducible refine Kd.C_drew ?_))); (case side2 => rw [show t382.length = t367.length from (Kd.R_reads' HO_372001.out).1.symm]; exact (Kd.R_reads' HO_372001.out).2.1); rintro e w174 ⟨rfl, hb⟩; refine ⟨_, rfl, ?_⟩; have n0_ := Aside0.mk (Kd.R_below (by (with_reducible repeat (first | apply Kd.R_alloc | apply Kd.R_drewN | apply Kd.R_drew)); exact HO_361001.out) hb); have n1_ := Aside0.mk (Kd.R_below (by (with_reducible repeat (first | apply Kd.R_alloc | apply Kd.R_drewN | apply Kd.R_drew)); exact HO_366001.out) hb); have n2_ := Aside0.mk (Kd.R_below (by (with_reducible repeat (first | apply Kd.R_alloc | apply Kd.R_drewN | apply Kd.R_drew)); exact HO_372001.out) hb); have n3_ := Aside0.mk (blk_below (g := gb349) (o := .cells #[.int .i64 a0_0, .slice A0_1 l0_1.length c0_1] 34 (0, 0)) (by (with_reducible repeat (first | refine blk_drewN ?_ _ | refine blk_drew ?_ | refine blk_alloc ?_ _)); exact BK349.out) hb); have n4_ := Aside0.mk (blk_below (g := gb360) (o := .cells #[.int .i64 t355, .slice Ao22 t356.length co22] 41 (0, 0)) (by (with_reducible repeat (first | refine blk_drewN ?_ _ | refine blk_drew ?_ | refine blk_alloc ?_ _)); exact BK360.out) hb); have n5_ := Aside0.mk (blk_below (g := gb365) (o := .cells #[.int .i64 t361, .slice Ao29 t379.length co29] 41 (0, 0)) (by (with_reducible repeat (first | refine blk_drewN ?_ _ | refine blk_drew ?_ | refine blk_alloc ?_ _)); exact BK365.out) hb); have n6_ := Aside0.mk (blk_below (g := gb371) (o := .cells #[.int .i64 t366, .slice Ao36 t367.length co36] 41 (0, 0)) (by (with_reducible repeat (first | refine blk_drewN ?_ _ | refine blk_drew ?_ | refine blk_alloc ?_ _)); exact BK371.out) hb); have n7_ := Aside0.mk (below_step (by repeat (first | (with_reducible first | exact HB.out | apply below_alloc | apply pw_below_drewN | apply below_drew1 | refine below_set ?_ GE349.out | refine below_set ?_ GE360.out | refine below_set ?_ GE365.out | refine below_set ?_ GE371.out) | exact HB.out)) hb); clear HO_361001; clear HO_366001; clear HO_372001; clear BK349; clear BK360; clear BK365; clear BK371; clear HB; have HO_361001 := n0_; have HO_366001 := n1_; have HO_372001 := n2_; have BK349 := n3_; have BK360 := n4_; have BK365 := n5_; have BK371 := n6_; have HB := n7_; clear n0_ n1_ n2_ n3_ n4_ n5_ n6_ n7_; (try clear hb); (try clear hb2); (try clear hk); (try clear hi)))
           go_ret
           exact ⟨by first | rfl | (simp [errW_none, errW_some] <;> rfl) | (simp [*, errW_none, errW_some] <;> rfl), by repeat (first | (with_reducible first | exact HB.out | apply below_alloc | apply pw_below_drewN | apply below_drew1 | refine below_set ?_ GE349.out | refine below_set ?_ GE360.out | refine below_set ?_ GE365.out | refine below_set ?_ GE371.out) | exact HB.out)⟩
     ·replace c58 := Bool.eq_false_iff.mpr c58
      subst c58
      have H1 : (some false) = some r := by rw [if_neg (show ¬ (false = true) by decide)] at H; exact H
      clear H
      have H := H1
      clear H1
      obtain rfl := Option.some.inj H
      try go_wp2
      have n0_ := Aside0.mk (Kd.R_drew HO_361001.out)
      have n1_ := Aside0.mk (Kd.R_drew HO_366001.out)
      have n2_ := Aside0.mk (Kd.R_drew HO_372001.out)
      have n3_ := Aside0.mk (blk_drew BK349.out)
      have n4_ := Aside0.mk (blk_drew BK360.out)
      have n5_ := Aside0.mk (blk_drew BK365.out)
      have n6_ := Aside0.mk (blk_drew BK371.out)
      have n7_ := Aside0.mk (below_drew1 HB.out)
      clear HO_361001
      clear HO_366001
      clear HO_372001
      clear BK349
      clear BK360
      clear BK365
      clear BK371
      clear HB
      have HO_361001 := n0_
      have HO_366001 := n1_
      have HO_372001 := n2_
      have BK349 := n3_
      have BK360 := n4_
      have BK365 := n5_
      have BK371 := n6_
      have HB := n7_
      clear n0_ n1_ n2_ n3_ n4_ n5_ n6_ n7_
      refine start_ (n := 5) (S := fun w' => w'.cell? ⟨gb365, 0, none⟩ = some (.int .i64 t361) ∧ w'.cell? ⟨gb365, 1, none⟩ = some (.slice Ao29 t362.length co29) ∧ w'.cell? ⟨gb349, 0, none⟩ = some (.int .i64 a0_0) ∧ w'.cell? ⟨gb349, 1, none⟩ = some (.slice A0_1 l0_1.length c0_1)) (ds := []) #[false, false, false, false, false] (by kernel_rfl) rfl rfl ⟨(blk_cell BK365.out 0).trans rfl, (blk_cell BK365.out 1).trans rfl, (blk_cell BK349.out 0).trans rfl, (blk_cell BK349.out 1).trans rfl⟩ (fun hHeld => ?_)
      generalize wc.drew = w175 at HO_361001 HO_366001 HO_372001 BK349 BK360 BK365 BK371 HB hHeld ⊢
      refine take_ (i := 0) (N := some 41) (v := ?_) (a' := ?_) #[true, false, false, false, false] rfl rfl (by kernel_rfl) (fun _ _ _ h => h) (Or.inl ⟨by rfl, ?_⟩) hHeld ?_ ?_
      rotate_left
      ·rintro w' ⟨s0, s1, s2, s3⟩
       go_simp
       with_reducible rfl
      rotate_left
      ·simp only [Act.put, List.setIfInBounds_toArray, List.set_cons_zero, List.set_cons_succ, i64_w, i32_w]
       rfl
      refine take_ (i := 1) (N := some 42) (v := ?_) (a' := ?_) #[true, true, false, false, false] rfl rfl (by kernel_rfl) (fun _ _ _ h => h) (Or.inl ⟨by rfl, ?_⟩) hHeld ?_ ?_
      rotate_left
      ·rintro w' ⟨s0, s1, s2, s3⟩
       go_simp
       with_reducible rfl
      rotate_left
      ·simp only [Act.put, List.setIfInBounds_toArray, List.set_cons_zero, List.set_cons_succ, i64_w, i32_w]
       rfl
      refine one_ (i := 2) (N := some 43) #[true, true, true, false, false] rfl rfl (by kernel_rfl) (by decide) (fun K hK => ?_)
      refine goes_ Tryz.func17 (by kernel_rfl) rfl #[.agg #[.int .i64 a0_0, .slice A0_1 l0_1.length c0_1]] (by rfl) rfl rfl (by (try simp only [List.map_toArray, List.map_cons, List.map_nil]); first | done | rfl | (simp only [List.length_drop, List.length_take]; rfl)) ?_
      with_reducible refine (laws_toPuzzle.calls kj10 a0_0 _ _ l0_1 t373 t374 _ ?side1 ?side2 A56.out).mono ?_
      (case side1 => repeat (first | exact (Kd.C_below HR0_1.out HB.out) | (with_reducible refine Kd.C_alloc ?_ _) | (with_reducible refine Kd.C_drewN ?_ _) | (with_reducible refine Kd.C_drew ?_)))
      (case side2 => exact HC0_1.out)
      rintro e w176 ⟨v375, rfl, ho0, hb⟩
      refine ⟨_, rfl, ?_⟩
      have n0_ := Aside0.mk (Kd.R_elder' (by (with_reducible repeat (first | apply Kd.R_alloc | apply Kd.R_drewN | apply Kd.R_drew)); exact HO_361001.out) (Kd.R_base ho0) hb)
      have n1_ := Aside0.mk (Kd.R_elder' (by (with_reducible repeat (first | apply Kd.R_alloc | apply Kd.R_drewN | apply Kd.R_drew)); exact HO_366001.out) (Kd.R_base ho0) hb)
      have n2_ := Aside0.mk (Kd.R_elder' (by (with_reducible repeat (first | apply Kd.R_alloc | apply Kd.R_drewN | apply Kd.R_drew)); exact HO_372001.out) (Kd.R_base ho0) hb)
      have n3_ := Aside0.mk (Kd.R_lower (Kd.R_new' (Kd.R_new' (Kd.R_new' ho0 (Kd.R_lt (by (with_reducible repeat (first | apply Kd.R_alloc | apply Kd.R_drewN | apply Kd.R_drew)); exact HO_361001.out))) (Kd.R_lt (by (with_reducible repeat (first | apply Kd.R_alloc | apply Kd.R_drewN | apply Kd.R_drew)); exact HO_366001.out))) (Kd.R_lt (by (with_reducible repeat (first | apply Kd.R_alloc | apply Kd.R_drewN | apply Kd.R_drew)); exact HO_372001.out))) (below_size (by repeat (first | (with_reducible first | exact HB.out | apply below_alloc | apply pw_below_drewN | apply below_drew1 | refine below_set ?_ GE349.out | refine below_set ?_ GE360.out | refine below_set ?_ GE365.out | refine below_set ?_ GE371.out) | exact HB.out))))
      have n4_ := Aside0.mk (blk_below (g := gb349) (o := .cells #[.int .i64 a0_0, .slice A0_1 l0_1.length c0_1] 34 (0, 0)) (by (with_reducible repeat (first | refine blk_drewN ?_ _ | refine blk_drew ?_ | refine blk_alloc ?_ _)); exact BK349.out) hb)
      have n5_ := Aside0.mk (blk_below (g := gb360) (o := .cells #[.int .i64 t355, .slice Ao22 t356.length co22] 41 (0, 0)) (by (with_reducible repeat (first | refine blk_drewN ?_ _ | refine blk_drew ?_ | refine blk_alloc ?_ _)); exact BK360.out) hb)
      have n6_ := Aside0.mk (blk_below (g := gb365) (o := .cells #[.int .i64 t361, .slice Ao29 t362.length co29] 41 (0, 0)) (by (with_reducible repeat (first | refine blk_drewN ?_ _ | refine blk_drew ?_ | refine blk_alloc ?_ _)); exact BK365.out) hb)
      have n7_ := Aside0.mk (blk_below (g := gb371) (o := .cells #[.int .i64 t366, .slice Ao36 t367.length co36] 41 (0, 0)) (by (with_reducible repeat (first | refine blk_drewN ?_ _ | refine blk_drew ?_ | refine blk_alloc ?_ _)); exact BK371.out) hb)
      have n8_ := Aside0.mk (below_step (by repeat (first | (with_reducible first | exact HB.out | apply below_alloc | apply pw_below_drewN | apply below_drew1 | refine below_set ?_ GE349.out | refine below_set ?_ GE360.out | refine below_set ?_ GE365.out | refine below_set ?_ GE371.out) | exact HB.out)) hb)
      clear HO_361001
      clear HO_366001
      clear HO_372001
      clear BK349
      clear BK360
      clear BK365
      clear BK371
      clear HB
      have HO_361001 := n0_
      have HO_366001 := n1_
      have HO_372001 := n2_
      have HO376 := n3_
      have BK349 := n4_
      have BK360 := n5_
      have BK365 := n6_
      have BK371 := n7_
      have HB := n8_
      clear n0_ n1_ n2_ n3_ n4_ n5_ n6_ n7_ n8_
      (try clear hb)
      (try clear hb2)
      (try clear hk)
      (try clear hi)
      (try clear ho0)
      obtain ⟨Ao177, co177, eo177⟩ := Kd.R_slice HO376.out
      (first | subst eo177 | (injection eo177 with f1_ f2_ f3_; have f4_ := f1_.symm; have f5_ := f3_.symm; clear f1_ f2_ f3_; subst f4_; subst f5_))
      refine hK.out _ _ ⟨(blk_cell BK365.out 0).trans rfl, (blk_cell BK365.out 1).trans rfl, (blk_cell BK349.out 0).trans rfl, (blk_cell BK349.out 1).trans rfl⟩ (fun hHeld => ?_)
      clear hK K
      refine norm_ (a' := ?_) ?_ ?_
      rotate_left
      ·show Act.put _ (some 43) _ = _
       simp only [Act.put, List.setIfInBounds_toArray, List.set_cons_zero, List.set_cons_succ, i64_w, i32_w]
       rfl
      refine one_ (i := 3) (N := some 44) #[true, true, true, true, false] rfl rfl (by kernel_rfl) (by decide) (fun K hK => ?_)
      refine goes_ Tryz.func20 (by kernel_rfl) rfl #[.agg #[.int .i64 t361, .slice Ao29 t362.length co29], .agg #[.int .i64 t373, .slice Ao177 t374.length co177]] (by rfl) rfl rfl (by (try simp only [List.map_toArray, List.map_cons, List.map_nil]); first | done | rfl | (simp only [List.length_drop, List.length_take]; rfl)) ?_
      with_reducible refine (laws_eqPuzzle.calls kj10 t361 _ _ t362 t373 _ _ t374 false _ ?side1 ?side2 ?side3 ?side4 A57.out).mono ?_
      (case side1 => repeat (first | exact (Kd.R_reads' HO_366001.out).2.2 | (with_reducible refine Kd.C_alloc ?_ _) | (with_reducible refine Kd.C_drewN ?_ _) | (with_reducible refine Kd.C_drew ?_)))
      (case side2 => exact (Kd.R_reads' HO_366001.out).2.1)
      (case side3 => repeat (first | exact (Kd.R_reads' HO376.out).2.2 | (with_reducible refine Kd.C_alloc ?_ _) | (with_reducible refine Kd.C_drewN ?_ _) | (with_reducible refine Kd.C_drew ?_)))
      (case side4 => exact (Kd.R_reads' HO376.out).2.1)
      rintro e w178 ⟨rfl, hb⟩
      refine ⟨_, rfl, ?_⟩
      have n0_ := Aside0.mk (Kd.R_below (by (with_reducible repeat (first | apply Kd.R_alloc | apply Kd.R_drewN | apply Kd.R_drew)); exact HO_361001.out) hb)
      have n1_ := Aside0.mk (Kd.R_below (by (with_reducible repeat (first | apply Kd.R_alloc | apply Kd.R_drewN | apply Kd.R_drew)); exact HO_366001.out) hb)
      have n2_ := Aside0.mk (Kd.R_below (by (with_reducible repeat (first | apply Kd.R_alloc | apply Kd.R_drewN | apply Kd.R_drew)); exact HO_372001.out) hb)
      have n3_ := Aside0.mk (Kd.R_below (by (with_reducible repeat (first | apply Kd.R_alloc | apply Kd.R_drewN | apply Kd.R_drew)); exact HO376.out) hb)
      have n4_ := Aside0.mk (blk_below (g := gb349) (o := .cells #[.int .i64 a0_0, .slice A0_1 l0_1.length c0_1] 34 (0, 0)) (by (with_reducible repeat (first | refine blk_drewN ?_ _ | refine blk_drew ?_ | refine blk_alloc ?_ _)); exact BK349.out) hb)
      have n5_ := Aside0.mk (blk_below (g := gb360) (o := .cells #[.int .i64 t355, .slice Ao22 t356.length co22] 41 (0, 0)) (by (with_reducible repeat (first | refine blk_drewN ?_ _ | refine blk_drew ?_ | refine blk_alloc ?_ _)); exact BK360.out) hb)
      have n6_ := Aside0.mk (blk_below (g := gb365) (o := .cells #[.int .i64 t361, .slice Ao29 t362.length co29] 41 (0, 0)) (by (with_reducible repeat (first | refine blk_drewN ?_ _ | refine blk_drew ?_ | refine blk_alloc ?_ _)); exact BK365.out) hb)
      have n7_ := Aside0.mk (blk_below (g := gb371) (o := .cells #[.int .i64 t366, .slice Ao36 t367.length co36] 41 (0, 0)) (by (with_reducible repeat (first | refine blk_drewN ?_ _ | refine blk_drew ?_ | refine blk_alloc ?_ _)); exact BK371.out) hb)
      have n8_ := Aside0.mk (below_step (by repeat (first | (with_reducible first | exact HB.out | apply below_alloc | apply pw_below_drewN | apply below_drew1 | refine below_set ?_ GE349.out | refine below_set ?_ GE360.out | refine below_set ?_ GE365.out | refine below_set ?_ GE371.out) | exact HB.out)) hb)
      clear HO_361001
      clear HO_366001
      clear HO_372001
      clear HO376
      clear BK349
      clear BK360
      clear BK365
      clear BK371
      clear HB
      have HO_361001 := n0_
      have HO_366001 := n1_
      have HO_372001 := n2_
      have HO376 := n3_
      have BK349 := n4_
      have BK360 := n5_
      have BK365 := n6_
      have BK371 := n7_
      have HB := n8_
      clear n0_ n1_ n2_ n3_ n4_ n5_ n6_ n7_ n8_
      (try clear hb)
      (try clear hb2)
      (try clear hk)
      (try clear hi)
      refine hK.out _ _ ⟨(blk_cell BK365.out 0).trans rfl, (blk_cell BK365.out 1).trans rfl, (blk_cell BK349.out 0).trans rfl, (blk_cell BK349.out 1).trans rfl⟩ (fun hHeld => ?_)
      clear hK K
      refine norm_ (a' := ?_) ?_ ?_
      rotate_left
      ·show Act.put _ (some 44) _ = _
       simp only [Act.put, List.setIfInBounds_toArray, List.set_cons_zero, List.set_cons_succ, i64_w, i32_w]
       rfl
      refine pure_ (i := 4) (N := some 45) (v := ?_) (a' := ?_) #[true, true, true, true, true] rfl rfl (by kernel_rfl) (fun _ _ _ h => h) (Or.inl ⟨by rfl, ?_⟩) ?_ ?_
      rotate_left
      ·intro w'
       go_simp
       with_reducible rfl
      rotate_left
      ·simp only [Act.put, List.setIfInBounds_toArray, List.set_cons_zero, List.set_cons_succ, i64_w, i32_w]
       rfl
      refine done_ (by kernel_rfl) ?_
      try go_wp2
      go_ret
      exact ⟨by first | rfl | (simp [errW_none, errW_some] <;> rfl) | (simp [*, errW_none, errW_some] <;> rfl), by repeat (first | (with_reducible first | exact HB.out | apply below_alloc | apply pw_below_drewN | apply below_drew1 | refine below_set ?_ GE349.out | refine below_set ?_ GE360.out | refine below_set ?_ GE365.out | refine below_set ?_ GE371.out) | exact HB.out)⟩
end Go.Proofs.YtnncjnjfdhbddaaGreat.Z
namespace Go.Proofs.YtnncjnjfdhbddaaGreat.Z
open Go.RowKit Go.Proofs.YtnncjnjfdhbddaaGreatW.PrintWords Go.Proofs.YtnncjnjfdhbddaaGreatW.PrintLast Go.Proofs.YtnncjnjfdhbddaaGreatW.PrintMore
attribute [local go_sem] max2_int min2_int max_two min_two max_three min_three max_four min_four
set_option linter.unusedVariables false
set_option linter.unusedSimpArgs false
def oneG (n : Nat) (l : List S86) : Bool := ((((solsG n l).length : Nat) : Int) == 1)
def hardL (n : Nat) : Nat → List S86 → Nat → List S86
 | 0, l, _ => l
 | d + 1, l, j => if j < l.length then (if oneG n (l.eraseIdx j) = true then hardL n d (l.eraseIdx j) j else hardL n d l (j + 1)) else l
theorem hardL_len (n : Nat) : ∀ d l j, (hardL n d l j).length ≤ l.length
 | 0, l, j => Nat.le_refl _
 | d + 1, l, j => by
  rw [hardL]
  split
  ·split
   ·exact Nat.le_trans (hardL_len n d _ _) (List.length_eraseIdx_le l j)
   ·exact hardL_len n d _ _
  ·exact Nat.le_refl _
theorem specHard_l (n : Nat) (hi : inI (n : Int) 1 4 = true) (x : List S86) : ∀ (d : Nat) (l : List S86) (j k : Nat), l.all (clueB (n : Int)) = true → l.length ≤ 8 → l.length - j ≤ d → d < k → spec_HarderPuzzle.l0 k l (j : Int) (n : Int) x = some ((n : Int), hardL n d l j, true)
 | 0, l, j, k, hl, h8, h, hk => by
  obtain ⟨k, rfl⟩ : ∃ m, k = m + 1 := ⟨k - 1, by omega⟩
  rw [spec_HarderPuzzle.l0, if_neg (by omega), hardL]
 | d + 1, l, j, k, hl, h8, h, hk => by
  obtain ⟨k, rfl⟩ : ∃ m, k = m + 1 := ⟨k - 1, by omega⟩
  rw [spec_HarderPuzzle.l0, hardL]
  by_cases hj : j < l.length
  ·have hle : (l.eraseIdx j).length + 1 = l.length := by rw [List.length_eraseIdx]; rw [if_pos hj]; omega
   have ha := all_erase _ l j hl
   rw [if_pos (by omega), if_pos hj, pzWithout_f l j hj (by omega), Option.bind_some, spec_pzSolved.f, pzAll_f n _ hi ha (by omega), Option.bind_some, Option.bind_some]
   cases hq : oneG n (l.eraseIdx j) with
   | true =>
    rw [if_pos (by simpa [oneG] using hq), if_pos rfl]
    exact specHard_l n hi x d _ j k ha (by omega) (by omega) (by omega)
   | false =>
    rw [if_neg (by simpa [oneG] using hq), if_neg (by simp), wrap64_nat1 j (by omega)]
    exact specHard_l n hi x d l (j + 1) k hl h8 (by omega) (by omega)
  ·rw [if_neg (by omega), if_neg hj]
theorem implHard_l (n : Nat) (hi : inI (n : Int) 1 4 = true) (x : List S86) : ∀ (d : Nat) (l : List S86) (j k : Nat), l.all (clueB (n : Int)) = true → l.length ≤ 8 → l.length - j ≤ d → d < k → impl_HarderPuzzle.l0 k l (j : Int) (n : Int) x = some ((n : Int), hardL n d l j, true)
 | 0, l, j, k, hl, h8, h, hk => by
  obtain ⟨k, rfl⟩ : ∃ m, k = m + 1 := ⟨k - 1, by omega⟩
  rw [impl_HarderPuzzle.l0, if_neg (by omega), hardL]
 | d + 1, l, j, k, hl, h8, h, hk => by
  obtain ⟨k, rfl⟩ : ∃ m, k = m + 1 := ⟨k - 1, by omega⟩
  rw [impl_HarderPuzzle.l0, hardL]
  by_cases hj : j < l.length
  ·have hle : (l.eraseIdx j).length + 1 = l.length := by rw [List.length_eraseIdx]; rw [if_pos hj]; omega
   have ha := all_erase _ l j hl
   rw [if_pos (by omega), if_pos hj, impl_without.f, if_pos ⟨by omega, by omega, by omega⟩, Option.bind_some, Int.toNat_natCast, sols_f n hi _ ha, Option.bind_some]
   cases hq : oneG n (l.eraseIdx j) with
   | true =>
    rw [if_pos (by simpa [oneG] using hq), if_pos rfl]
    exact implHard_l n hi x d _ j k ha (by omega) (by omega) (by omega)
   | false =>
    rw [if_neg (by simpa [oneG] using hq), if_neg (by simp), wrap64_nat1 j (by omega)]
    exact implHard_l n hi x d l (j + 1) k hl h8 (by omega) (by omega)
  ·rw [if_neg (by omega), if_neg hj]
def hardR (a : Int) (l : List S86) : Int × List S86 × Bool := if puzzB a l = true ∧ oneG a.toNat l = true then (a, hardL a.toNat l.length l 0, true) else (0, [], false)
theorem specHard_f (a : Int) (l : List S86) (hl : l.length ≤ 2 ^ 40) (k : Nat) (hk : l.length + 2 < k) : spec_HarderPuzzle.f k a l = some (hardR a l) := by
 rw [spec_HarderPuzzle.f, pzGood_f a l (by omega) k (by omega), Option.bind_some, hardR]
 obtain ⟨k, rfl⟩ : ∃ m, k = m + 1 := ⟨k - 1, by omega⟩
 cases hp : puzzB a l with
 | false => rw [if_neg (by simp), spec_HarderPuzzle.j0, if_pos rfl, if_neg (by simp)]
 | true =>
  rw [if_pos rfl]
  simp only [puzzB, Bool.and_eq_true, decide_eq_true_eq] at hp
  have hi := inI_of hp.1
  obtain ⟨n, rfl⟩ := Int.eq_ofNat_of_zero_le (show 0 ≤ a by omega)
  rw [spec_pzSolved.f, pzAll_f n l hp.1 hp.2.2 (by omega), Option.bind_some, Option.bind_some, Int.toNat_natCast]
  cases hq : oneG n l with
  | false =>
   rw [show (((solsG n l).length : Int) == 1) = false from hq, spec_HarderPuzzle.j0, if_pos (by simp), if_neg (by simp)]
  | true =>
   rw [show (((solsG n l).length : Int) == 1) = true from hq, spec_HarderPuzzle.j0, if_neg (by simp), Option.bind_some, if_pos (by simp; omega), List.nil_append, if_pos ⟨rfl, rfl⟩]
   exact specHard_l n hp.1 l l.length l 0 k hp.2.2 hp.2.1 (by omega) (by omega)
theorem implHard_f (a : Int) (l : List S86) (hl : l.length ≤ 2 ^ 40) (k : Nat) (hk : l.length < k) : impl_HarderPuzzle.f k a l = some (hardR a l) := by
 rw [impl_HarderPuzzle.f, impl_IsSolved.f, count_f a l, Option.bind_some, Option.bind_some, hardR]
 cases hp : puzzB a l with
 | false => simp
 | true =>
  simp only [puzzB, Bool.and_eq_true, decide_eq_true_eq] at hp
  have hi := inI_of hp.1
  obtain ⟨n, rfl⟩ := Int.eq_ofNat_of_zero_le (show 0 ≤ a by omega)
  simp only [if_true, Int.toNat_natCast]
  cases hq : oneG n l with
  | false => rw [show (((solsG n l).length : Int) == 1) = false from hq, if_neg (by simp), if_neg (by simp)]
  | true =>
   rw [show (((solsG n l).length : Int) == 1) = true from hq, if_pos rfl, impl_Clue.f, if_pos (by omega), Option.bind_some, if_pos ⟨trivial, rfl⟩]
   exact implHard_l n hp.1 l l.length l 0 k hp.2.2 hp.2.1 (by omega) (by omega)
theorem hardR_len (a : Int) (l : List S86) : (hardR a l).2.1.length ≤ l.length := by
 rw [hardR]
 split
 ·exact hardL_len _ _ _ _
 ·exact Nat.zero_le _
theorem harderPuzzle_pure (a : Int) (l : List S103) (hl : l.length ≤ 9223372036854775807) : ∃ k, laws_FnExactHarderPuzzle.f k a l = some true := by
 by_cases hs : l.length ≤ 1048576
 ·refine ⟨l.length + 20, ?_⟩
  have hlm : (l.map toC).length = l.length := by simp
  have hsp := fun k hk => specHard_f a (l.map toC) (by omega) k hk
  have him := fun k hk => implHard_f a (l.map toC) (by omega) k hk
  have hrl := hardR_len a (l.map toC)
  generalize hardR a (l.map toC) = r at hsp him hrl
  obtain ⟨r1, r2, r3⟩ := r
  simp only at hrl
  have hbb : (r3 != r3) = false := by simp
  have hmk := fun (x : Int) (c : List S86) (hc : c.length ≤ 1048576) k (hk : c.length < k) => markPuzzle_f x c 1 (by omega) (by omega) k hk
  have hhd := fun (x : Int) (m : Nat) (hc : m ≤ 1048576) k (hk : m < k) => heldPuzzle_f x 1 m (by omega) (by omega) k hk
  simp only [show ((1 : Nat) : Int) = 1 from rfl] at hmk hhd
  rw [laws_FnExactHarderPuzzle.f, szPuzzle_f a l hl, if_pos hs, Option.bind_some, if_neg (by omega), toPuzzle_f a l hs _ (by omega), Option.bind_some, hsp _ (by omega), Option.bind_some, Option.bind_some, him _ (by omega), Option.bind_some]
  simp only
  rw [eqPuzzle_f r1 r2 (by omega) _ (by omega), Option.bind_some, if_pos rfl, hbb, laws_FnExactHarderPuzzle.j0, if_neg (by simp), toPuzzle_f a l hs _ (by omega), Option.bind_some]
  simp only
  rw [eqPuzzle_f a (l.map toC) (by omega) _ (by omega), Option.bind_some, if_pos rfl, hmk a (l.map toC) (by omega) _ (by omega), Option.bind_some, if_neg (by simp; omega), eqPuzzle_f r1 r2 (by omega) _ (by omega), Option.bind_some, if_pos rfl, hbb]
  rw [show l.length + 19 = l.length + 18 + 1 from rfl, laws_FnExactHarderPuzzle.j1, if_neg (by simp), hmk r1 r2 (by omega) _ (by omega), Option.bind_some]
  simp only
  rw [hhd r1 r2.length (by omega) _ (by omega), Option.bind_some, if_neg (by omega), if_pos rfl, toPuzzle_f a l hs _ (by omega), Option.bind_some]
  simp only
  rw [him _ (by omega), Option.bind_some]
  simp only
  rw [eqPuzzle_f r1 r2 (by omega) _ (by omega), Option.bind_some, if_pos rfl, hbb]
  rw [show l.length + 18 = l.length + 17 + 1 from rfl, laws_FnExactHarderPuzzle.j2, if_neg (by simp), hhd r1 r2.length (by omega) _ (by omega), Option.bind_some, if_neg (by omega), if_pos rfl]
 ·refine ⟨1, ?_⟩
  rw [laws_FnExactHarderPuzzle.f, szPuzzle_f a l hl, if_neg hs, Option.bind_some, if_pos (by omega)]
end Go.Proofs.YtnncjnjfdhbddaaGreat.Z
namespace Go.Proofs.YtnncjnjfdhbddaaGreat.Z
open Go.RowKit Go.Proofs.YtnncjnjfdhbddaaGreatW.PrintWords Go.Proofs.YtnncjnjfdhbddaaGreatW.PrintLast Go.Proofs.YtnncjnjfdhbddaaGreatW.PrintMore
attribute [local go_sem] max2_int min2_int max_two min_two max_three min_three max_four min_four
set_option linter.unusedVariables false
set_option linter.unusedSimpArgs false
open Go.ChangeShapes Go.WideShapes Go.Deep
def Opens {α : Type} (P : Program) (t : TypeId) (d : Kd α) (good : α → Prop) : Prop := ∀ {H : Type} (enc : TypeId × Value → H) (w : World) (base : Nat) (sp : Nat → Bool) (held : Bool) (fuel : Nat) (cs : List Value) (x : DataW H × List MemPlace), DataW.trod enc P w base sp held fuel t cs = some x → ∃ a : α, d.K w a cs ∧ good a
def i64ok (n : Int) : Prop := -9223372036854775808 ≤ n ∧ n ≤ 9223372036854775807
section
variable {P : Program} {α β γ : Type}
theorem opens_int {t : TypeId} (ht : P.underlying t = some (.int .i64)) : Opens P t (Kd.int .i64) i64ok := by
 intro H enc w base sp held fuel cs x h
 obtain ⟨n, rfl, _, hw⟩ := DataW.trod_int ht h
 simp only [Lit.wf, Bool.and_eq_true, decide_eq_true_eq] at hw
 exact ⟨n, rfl, hw⟩
theorem opens_slice {t e : TypeId} {d : Kd α} {good : α → Prop} [Inhabited α] (ht : P.underlying t = some (.slice e)) (hc : P.cellsOf e = d.sz) (h0 : 0 < d.sz) (ho : Opens P e d good) : Opens P t (Kd.slice e d) (fun l => ∀ a ∈ l, good a) := by
 intro H enc w base sp held fuel cs x h
 rcases DataW.trod_slice ht h with ⟨rfl, _⟩ | ⟨a, len, cap, elems, rest, n, _, rfl, _, hb, hl, hm, hlen, hel, _⟩
 ·exact ⟨[], ⟨none, 0, rfl, Nat.le_refl _, rfl, Nat.zero_le _, fun h => absurd h (Nat.lt_irrefl _)⟩, fun a ha => by cases ha⟩
 ·have each : ∀ i, i < len → ∃ y : α × List Value, w.cells? base (a.add (i * P.cellsOf e)) (P.cellsOf e) = some y.2 ∧ d.K w y.1 y.2 ∧ good y.1 := by
   intro i hi
   have h1 := hel i hi
   rw [List.getElem?_eq_getElem (show i < elems.length by omega), Option.bind_eq_some_iff] at h1
   obtain ⟨cs', h2, h3⟩ := h1
   obtain ⟨y, hk, hg⟩ := ho enc w base sp held n cs' _ h3
   exact ⟨(y, cs'), h2, hk, hg⟩
  obtain ⟨f, hf⟩ := choose_lt each
  have hlx : ((List.range len).map fun i => (f i).1).length = len := by simp
  refine ⟨(List.range len).map fun i => (f i).1, ⟨some a, cap, by rw [hlx], by rw [hlx]; exact hl, ?_⟩, fun y hy => ?_⟩
  ·refine ⟨rfl, by rw [hlx]; unfold maxLen at hm; omega, fun _ => ⟨a, rfl, fun j p hj => ?_⟩⟩
   have hjl : j < len := by
    have := (List.getElem?_eq_some_iff.1 hj).1
    rwa [hlx] at this
   obtain ⟨h1, h2, _⟩ := hf j hjl
   have hp : (f j).1 = p := by
    rw [List.getElem?_map, List.getElem?_range hjl] at hj
    simpa using hj
   obtain ⟨_, h4, h5⟩ := World.cells?_some h1
   refine ⟨(f j).2, by rw [h4, hc], hp ▸ h2, fun i u hu => ?_⟩
   have hi : i < P.cellsOf e := by rw [← h4]; exact (List.getElem?_eq_some_iff.1 hu).1
   have h6 := h5 i hi
   rw [hu, hc] at h6
   rw [← h6, Deep.add_add]
  ·obtain ⟨i, hi, rfl⟩ := List.mem_map.1 hy
   exact (hf i (List.mem_range.1 hi)).2.2
theorem opens_struct3 {t : TypeId} {f0 f1 f2 : Field} {d0 : Kd α} {d1 : Kd β} {d2 : Kd γ} {g0 : α → Prop} {g1 : β → Prop} {g2 : γ → Prop} (ht : P.underlying t = some (.struct #[f0, f1, f2])) (hC : P.cellsOf t = d0.sz + (d1.sz + d2.sz)) (ho0 : f0.offset = 0) (ho1 : f1.offset = d0.sz) (ho2 : f2.offset = d0.sz + d1.sz) (hc0 : P.cellsOf f0.type = d0.sz) (hc1 : P.cellsOf f1.type = d1.sz) (hc2 : P.cellsOf f2.type = d2.sz)
  (h0 : Opens P f0.type d0 g0) (h1 : Opens P f1.type d1 g1) (h2 : Opens P f2.type d2 g2) : Opens P t (Kd.pair d0 (Kd.pair d1 d2)) (fun x => g0 x.1 ∧ g1 x.2.1 ∧ g2 x.2.2) := by
 intro H enc w base sp held fuel cs x h
 obtain ⟨y0, y1, y2, n, _, hl, t0, t1, t2⟩ := trod_struct3 ht h
 rw [ho0, hc0, List.drop_zero] at t0
 rw [ho1, hc1] at t1
 rw [ho2, hc2, List.take_of_length_le (by rw [List.length_drop]; omega)] at t2
 obtain ⟨a, ka, ga⟩ := h0 enc w base sp held n _ _ t0
 obtain ⟨b, kb, gb⟩ := h1 enc w base sp held n _ _ t1
 obtain ⟨c, kc, gc⟩ := h2 enc w base sp held n _ _ t2
 refine ⟨(a, b, c), ⟨_, _, (List.take_append_drop d0.sz cs).symm, ka, _, _, ?_, kb, kc⟩, ga, gb, gc⟩
 rw [← List.drop_drop]
 exact (List.take_append_drop d1.sz _).symm
theorem opens_iso {t : TypeId} {d : Kd α} {g : α → Prop} (f : β → α) (f' : α → β) (hf : ∀ a, f (f' a) = a) (h : Opens P t d g) : Opens P t (Kd.iso d f) (fun x => g (f x)) := by
 intro H enc w base sp held fuel cs x hx
 obtain ⟨a, ka, ga⟩ := h enc w base sp held fuel cs x hx
 refine ⟨f' a, ?_, ?_⟩
 ·show d.K w (f (f' a)) cs
  rw [hf]; exact ka
 ·show g (f (f' a))
  rw [hf]; exact ga
theorem open_num_slice {t e : TypeId} {f0 f1 : Field} {d1 : Kd α} {g1 : α → Prop} [Inhabited α] (ht : P.underlying t = some (.struct #[f0, f1])) (hone : oneCellFields P #[f0, f1] = true) (hC : P.cellsOf t = 2) (h0 : P.underlying f0.type = some (.int .i64)) (h1 : P.underlying f1.type = some (.slice e)) (hc : P.cellsOf e = d1.sz) (hs0 : 0 < d1.sz) (ho : Opens P e d1 g1)
  {H : Type} {enc : TypeId × Value → H} {w : World} {base : Nat} {sp : Nat → Bool} {held : Bool} {r : Reach} {b0 : Nat} {v : Value} {d : DataW H} {p : List MemPlace} (hv : Value.okWide P w r b0 t v) (h : DataW.Trod enc P w base sp held t v d p) :
  ∃ (n : Int) (A : Option Addr) (c : Nat) (l : List α), v = .agg #[.int .i64 n, .slice A l.length c] ∧ i64ok n ∧ l.length ≤ c ∧ d1.C w A l.length l ∧ ∀ a ∈ l, g1 a := by
 obtain ⟨v0, v1, y0, y1, m, rfl, _, _, t0, t1⟩ := Go.Joins.open_agg2 ht hone hC hv h
 obtain ⟨n, hn, hw⟩ := opens_int h0 enc w base sp held m _ _ t0
 obtain ⟨l, ⟨A, c, hA, hlc, hC⟩, hg⟩ := opens_slice h1 hc hs0 ho enc w base sp held m _ _ t1
 have e0 : v0 = .int .i64 n := by simpa using (show [v0] = [Value.int .i64 n] from hn)
 have e1 : v1 = .slice A l.length c := by simpa using hA
 exact ⟨n, A, c, l, by rw [e0, e1], hw, hlc, hC, hg⟩
end
end Go.Proofs.YtnncjnjfdhbddaaGreat.Z
namespace Go.Proofs.YtnncjnjfdhbddaaGreat.Z
open Go.RowKit Go.Proofs.YtnncjnjfdhbddaaGreatW.PrintWords Go.Proofs.YtnncjnjfdhbddaaGreatW.PrintLast Go.Proofs.YtnncjnjfdhbddaaGreatW.PrintMore
attribute [local go_sem] max2_int min2_int max_two min_two max_three min_three max_four min_four
set_option linter.unusedVariables false
set_option linter.unusedSimpArgs false
instance : Inhabited S103 := ⟨z103⟩
set_option maxRecDepth 100000 in
theorem opens_clue : Opens Tryz.prog 103 k103 (fun x => i64ok x.f0 ∧ i64ok x.f1 ∧ i64ok x.f2) :=
 opens_iso (fun x : S103 => (x.f0, x.f1, x.f2)) (fun p => ⟨p.1, p.2.1, p.2.2⟩) (fun _ => rfl)
  (opens_struct3 Tryz.underlying103 (by kernel_rfl) rfl rfl rfl (by kernel_rfl) (by kernel_rfl) (by kernel_rfl) (opens_int Tryz.underlying3) (opens_int Tryz.underlying3) (opens_int Tryz.underlying3))
set_option maxRecDepth 100000 in
theorem open_puzzle {H : Type} {enc : TypeId × Value → H} {w : World} {base : Nat} {sp : Nat → Bool} {held : Bool} {r : Reach} {b0 : Nat} {v : Value} {d : DataW H} {p : List MemPlace} (hv : Value.okWide Tryz.prog w r b0 34 v) (h : DataW.Trod enc Tryz.prog w base sp held 34 v d p) :
  ∃ (n : Int) (A : Option Addr) (c : Nat) (l : List S103), v = .agg #[.int .i64 n, .slice A l.length c] ∧ i64ok n ∧ l.length ≤ c ∧ Kd.C k103 w A l.length l ∧ ∀ a ∈ l, i64ok a.f0 ∧ i64ok a.f1 ∧ i64ok a.f2 :=
 open_num_slice Tryz.underlying34 (by kernel_rfl) (by kernel_rfl) Tryz.underlying3 Tryz.underlying32 (show Tryz.prog.cellsOf 103 = 3 by kernel_rfl) (show 0 < 3 by decide) opens_clue hv h
end Go.Proofs.YtnncjnjfdhbddaaGreat.Z
namespace Go.Proofs.YtnncjnjfdhbddaaGreat.fnExactHarderPuzzle
open Go.ChangeShapes Go.WideShapes Go.ChangeAt Go.RowKit
set_option linter.unusedVariables false
theorem own : ownKnob Tryz.prog.godebug = none := by kernel_rfl
theorem laidOut : laidOutB Tryz.prog = true := by kernel_rfl
set_option maxRecDepth 100000 in
theorem lifted (os : Os) (started : os.Started) (H : Type) (enc : TypeId × Value → H) :
  ReturnsInHanded {} Tryz.checked os 5 .any (Rows.fnExactHarderPuzzleSpec.pre6 enc Tryz.prog Tryz.f5 Rows.fnExactHarderPuzzleRow.domain false) (Rows.fnExactHarderPuzzleSpec.post enc Tryz.prog Tryz.f5 false true false false) := by
 refine returnsInHanded_of_change_sized (C := Tryz.checked) own started (by kernel_rfl) Tryz.func5
  (ChangeSpec.witness6 (enc := enc) (C := Tryz.checked) false ⟨#[], #[.agg #[.int .i64 0, .slice none 0 0]], []⟩ 8 (by kernel_rfl) (by kernel_rfl) (by kernel_rfl) (by kernel_rfl)) ?_
 intro W base args ds gs before hval0 hW hcnd hsz0 _
 have hval : ∀ (j : Nat) t v, Tryz.f5.params[j]? = some t → args[j]? = some v → Value.okWide Tryz.prog W .any base t v := hval0
 have hW' := hW
 obtain ⟨p, q, hA0, hV, rfl, hfz, hnd⟩ := hW
 have hA : DataW.TrodAll enc Tryz.prog W 0 (fun _ => true) true Tryz.f5.params.toList args.toList ds p := hA0
 rw [Tryz.params5] at hA hval
 obtain ⟨v0, vs0, d0, ds0, p0, q0, hargs, rfl, rfl, h0, r0⟩ := trodAll_cons hA
 obtain ⟨rfl, rfl, rfl⟩ := trodAll_nil r0
 obtain rfl : args = #[v0] := by cases args; simp_all
 obtain ⟨rfl, rfl⟩ := trodVars_none hV
 have k0 := h0
 have lt0 : ∀ x ∈ p0, x.block < W.heap.size := by obtain ⟨m, hm⟩ := k0; exact DataW.trod_lt m _ _ _ hm
 obtain ⟨n, A, c, l, rfl, _, hlc, hC, hg⟩ := Z.open_puzzle (hval 0 34 v0 rfl rfl) h0
 clear hA0 hval0 hsz0
 obtain ⟨k, hk⟩ := Z.harderPuzzle_pure n l hC.2.1
 refine (Z.laws_FnExactHarderPuzzle.calls k n A c l true W hC hlc hk).mono fun e W' ⟨he, bel⟩ => ?_
 subst he
 exact ⟨_, rfl, _, _, _, [], _, [], hW', trodAll_mk1 (shut_bool Tryz.underlying4 _), (trodAll_cons_mk (Below.trod laidOut (by kernel_rfl) (of_decide_eq_true (by kernel_rfl)) k0 bel lt0) trodAll_mk0), rfl, bel.frame _, fun h => by cases h⟩
theorem over : Rows.fnExactHarderPuzzleRow.holds Tryz.pinned (OpenSpec.ofChange Rows.fnExactHarderPuzzleSpec) :=
 OpenClaim.holds_of_wide 5 Tryz.f5 rfl rfl rfl rfl rfl rfl rfl ⟨rfl, rfl, rfl, rfl, rfl⟩ rfl rfl rfl rfl rfl (by kernel_rfl) Tryz.func5 (by kernel_rfl)
  (of_decide_eq_true (by kernel_rfl)) (by unfold Func.isWrapper; first | (rw [if_pos (by decide +kernel)]; kernel_rfl) | (rw [if_neg (by decide +kernel)]; exact ⟨rfl, rfl⟩))
  (fun os started H enc _ => lifted os started H enc)
theorem proved : Rows.FnExactHarderPuzzleSaid := over
#print axioms proved
end Go.Proofs.YtnncjnjfdhbddaaGreat.fnExactHarderPuzzle
namespace Go.Proofs.YtnncjnjfdhbddaaGreat
theorem fnExactHarderPuzzle_holds : Rows.FnExactHarderPuzzleSaid := fnExactHarderPuzzle.proved
end Go.Proofs.YtnncjnjfdhbddaaGreat
