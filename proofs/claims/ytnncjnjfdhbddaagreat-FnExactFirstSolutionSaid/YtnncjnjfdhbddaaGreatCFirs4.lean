import Derived.Test.YtnncjnjfdhbddaaGreatCFirs1
import Derived.Test.YtnncjnjfdhbddaaGreatCFirs2
import Derived.Test.YtnncjnjfdhbddaaGreatCFirs3
import Derived.Deep.RegionLaw
import Derived.Deep.RegionHeld3
import Derived.Deep.DeepMust
import Derived.Deep.QuietTactic
import Derived.BigQuiet
namespace Go.Proofs.YtnncjnjfdhbddaaGreat.Z
open Go.RowKit Go.Proofs.YtnncjnjfdhbddaaGreatW.PrintWords Go.Proofs.YtnncjnjfdhbddaaGreatW.PrintLast Go.Proofs.YtnncjnjfdhbddaaGreatW.PrintMore
attribute [local go_sem] max2_int min2_int max_two min_two max_three min_three max_four min_four
set_option linter.unusedVariables false
set_option linter.unusedSimpArgs false
def leastV (wins : List Bool) (m : Nat) : Bool := wins.getD m false && (setN m).all fun i => !(wins.getD (m - 2 ^ i) false)
theorem pow_facts (i kk : Nat) (h1 : i < 9) (h2 : 2 ^ i ≤ kk) : ∃ p : Nat, p = 2 ^ i ∧ wrap64 (2 ^ i) = (p : Int) ∧ wrap64 (2 ^ min i 64) = (p : Int) ∧ p ≤ kk ∧ p ≤ 512 := by
 have hw := wrap_pow (n := i) (N := 2 ^ i) (by omega) rfl
 refine ⟨2 ^ i, rfl, hw, ?_, h2, pow_le9 (by omega)⟩
 rw [show min i 64 = i from Nat.min_eq_left (by omega)]
 exact hw
set_option maxRecDepth 100000 in
set_option maxHeartbeats 8000000 in
theorem voLeast_any (wins : List Bool) (hw : wins.length ≤ 512) (A : Option Addr) (c : Nat) (w : World) (hr : Kd.C Kd.bool w A wins.length wins) :
  Calls Tryz.prog 154 #[.slice A wins.length c] w fun e w' => ∃ v, e = .returned v ∧ Kd.R (Kd.slice 3 (Kd.int .i64)) 36 w' w.heap.size (fun _ => True) v (srtP befB (partS (leastV wins) wins.length)) ∧ Below w.heap.size w w' := by
 have HR := Aside0.mk hr
 obtain ⟨N, hN⟩ : ∃ N, N = wins.length := ⟨_, rfl⟩
 have HN := Aside0.mk hN
 rw [← hN] at hw ⊢
 clear hr hN
 go_enter Tryz.func154, Tryz.ntmps154
 go_wp2
 go_loopg [3, 4, 5, 6, 8, 11] N (fun gg s3 _ _ _ _ s11 wr => ∃ kk : Nat, kk ≤ N ∧ N - kk ≤ gg ∧ s11 = .int .i64 kk ∧ Aside0 (Below w.heap.size w wr) ∧ Aside0 (Kd.R (Kd.slice 3 (Kd.int .i64)) 36 wr w.heap.size (fun _ => True) s3 (partS (leastV wins) kk)))
 case atStart => exact ⟨0, Nat.zero_le _, by omega, rfl, ⟨Below.refl _ _⟩, ⟨Kd.R_nil _ _ _ _ _⟩⟩
 case round =>
  obtain ⟨kk, hkk, hg, rfl, BW, HO⟩ := hrel
  by_cases hlt : kk < N
  ·have hltz : (kk : Int) < (N : Int) := by omega
   have h0z : (0 : Int) ≤ (kk : Int) := by omega
   obtain ⟨ad, e, hcell⟩ := Kd.at_bool (Kd.C_below HR.out BW.out) (kk : Int) h0z (by have := HN.out; omega)
   subst e
   have hrd : rdOf false wins (kk : Int) = wins.getD kk false := by simp [rdOf]
   rw [hrd, Int.toNat_natCast] at hcell
   cases hb : wins.getD kk false with
   | false =>
    rw [hb] at hcell
    have HB := Aside0.mk hb
    clear hb hrd
    go_wp2
    go_roundg (N - (kk + 1))
    case measure => omega
    case rel =>
     have e1 : leastV wins kk = false := by rw [leastV, HB.out]; rfl
     exact ⟨kk + 1, by omega, by omega, by go_num, BW, ⟨by rw [partS_no e1]; exact HO.out⟩⟩
   | true =>
    rw [hb] at hcell
    have HB := Aside0.mk hb
    clear hb hrd
    have hvl := fun w => spec_voList.calls (kk : Int) (setI kk) w (by rw [spec_voList.f, if_pos ⟨by omega, by omega⟩, Int.toNat_natCast])
    have HVL := Aside0.mk hvl
    clear hvl
    go_wp2_with (go_at_call 96; refine (HVL.out _).mono ?_; rintro e w2 ⟨v2, rfl, ho, hb2⟩; obtain ⟨A2, c2, rfl, hl2, hC2⟩ := Kd.R_reads ho; have HC2 := Aside0.mk hC2; have HB2 := Aside0.mk hb2; clear ho hb2 hC2 hl2)
    have hml : (setI kk).length = (setN kk).length := by simp [setI]
    have hmn : ∀ j, j < (setN kk).length → rd (setI kk) (j : Int) = (((setN kk).getD j 0 : Nat) : Int) := fun j hj => by simp [rd, setI, List.getD_eq_getElem?_getD, hj]
    have hmb : ∀ j, j < (setN kk).length → (setN kk).getD j 0 < 9 ∧ 2 ^ (setN kk).getD j 0 ≤ kk := fun j hj => by
     have h1 : (setN kk).getD j 0 ∈ setN kk := by simp [List.getD_eq_getElem?_getD, hj]
     have h2 := (List.mem_filter.1 h1).2
     have h3 := Nat.ge_two_pow_of_testBit h2
     refine ⟨?_, h3⟩
     rcases Nat.lt_or_ge ((setN kk).getD j 0) 9 with h | h
     ·exact h
     ·have := Nat.pow_le_pow_right (n := 2) (by decide) h
      omega
    obtain ⟨M, hM⟩ : ∃ M, M = (setI kk).length := ⟨_, rfl⟩
    rw [← hM] at HC2 hml ⊢
    have hM62 : M ≤ 62 := by rw [hml, setN]; exact Nat.le_trans (List.length_filter_le _ _) (by simp)
    have HMN := Aside0.mk hmn
    have HMB := Aside0.mk hmb
    have HML := Aside0.mk hml
    have HM := Aside0.mk hM
    clear hmn hmb hml hM
    go_loopg [6, 8, 21] M (fun gg s6 _ s21 wq => ∃ j : Nat, j ≤ M ∧ M - j ≤ gg ∧ s21 = .int .i64 j ∧ s6 = .bool (((setN kk).take j).all fun i => !(wins.getD (kk - 2 ^ i) false)) ∧ Aside0 (Below w.heap.size w wq) ∧ Aside0 (Kd.R (Kd.slice 3 (Kd.int .i64)) 36 wq w.heap.size (fun _ => True) u3 (partS (leastV wins) kk)) ∧ Aside0 (Kd.C (Kd.int .i64) wq A2 M (setI kk)))
    case atStart => exact ⟨0, Nat.zero_le _, by omega, rfl, by simp, ⟨Below.trans BW.out (HB2.out.mono BW.out.size)⟩, ⟨Kd.R_below HO.out HB2.out⟩, HC2⟩
    case round =>
     clear BW HO HC2
     obtain ⟨j, hj, hg2, rfl, rfl, BW, HO, HC2⟩ := hrel
     by_cases hjl : j < M
     ·have hjz : (j : Int) < (M : Int) := by omega
      have hjz0 : (0 : Int) ≤ (j : Int) := by omega
      obtain ⟨ad2, e, hcell2⟩ := Kd.at_int HC2.out (j : Int) hjz0 (by omega)
      subst e
      have hjm : j < (setN kk).length := by have := HML.out; omega
      rw [HMN.out j hjm, Int.toNat_natCast] at hcell2
      have hib := HMB.out j hjm
      have htk : (setN kk).take (j + 1) = (setN kk).take j ++ [(setN kk).getD j 0] := by rw [List.take_succ_eq_append_getElem hjm]; simp [List.getD_eq_getElem?_getD, hjm]
      generalize (setN kk).getD j 0 = i at *
      have HTK := Aside0.mk htk
      clear htk hjm
      obtain ⟨p, hp, hw1, hw2, hpk, hp9⟩ := pow_facts i kk hib.1 hib.2
      have hi0 : (0 : Int) ≤ (i : Int) := Int.natCast_nonneg _
      have HW := Aside0.mk (And.intro hw1 hw2)
      clear hw1 hw2
      obtain ⟨x, hx⟩ : ∃ x, x = kk - p := ⟨_, rfl⟩
      have hsub : (kk : Int) - (p : Int) = (x : Int) := by omega
      have hxN : x < N := by omega
      obtain ⟨ad3, e3, hcell3⟩ := Kd.at_bool (Kd.C_below HR.out BW.out) (x : Int) (by omega) (by have := HN.out; omega)
      cases e3
      have hrd : rdOf false wins (x : Int) = wins.getD (kk - 2 ^ i) false := by simp [rdOf, hx, hp]
      rw [hrd, Int.toNat_natCast] at hcell3
      generalize hbb : wins.getD (kk - 2 ^ i) false = b2 at *
      have HBB := Aside0.mk hbb
      have hx0 : (0 : Int) ≤ (x : Int) := by omega
      have hxz : (x : Int) < (N : Int) := by omega
      clear hrd hbb hp hx hib
      generalize hacc : ((setN kk).take j).all (fun i => !(wins.getD (kk - 2 ^ i) false)) = acc at *
      have HACC := Aside0.mk hacc
      clear hacc
      have hw1 := HW.out.1
      have hw2 := HW.out.2
      cases acc with
      | false =>
       go_wp2
       clear hw1 hw2 hsub
       go_roundg (M - (j + 1))
       case measure => omega
       case rel =>
        refine ⟨j + 1, by omega, by omega, by go_num, ?_, BW, HO, HC2⟩
        rw [HTK.out, List.all_append, HACC.out]; rfl
      | true =>
       go_wp2
       clear hw1 hw2 hsub
       go_roundg (M - (j + 1))
       case measure => omega
       case rel =>
        refine ⟨j + 1, by omega, by omega, by go_num, ?_, BW, HO, HC2⟩
        rw [HTK.out, List.all_append, HACC.out]
        simp only [List.all_cons, List.all_nil, HBB.out, Bool.true_and, Bool.and_true]
     ·have hjz : ¬ (j : Int) < (M : Int) := by omega
      obtain rfl : j = M := by omega
      have htk : (setN kk).take j = setN kk := List.take_of_length_le (by rw [HML.out]; exact Nat.le_refl _)
      rw [htk]
      have hpl := partS_len (leastV wins) kk
      cases hq : (setN kk).all (fun i => !(wins.getD (kk - 2 ^ i) false)) with
      | false =>
       have e1 : leastV wins kk = false := by rw [leastV, HB.out, hq]; rfl
       have E1 := Aside0.mk e1
       clear hq htk e1
       go_wp2
       go_roundg (N - (kk + 1))
       case measure => omega
       case rel =>
        exact ⟨kk + 1, by omega, by omega, by go_num, BW, ⟨by rw [partS_no E1.out]; exact HO.out⟩⟩
      | true =>
       have e1 : leastV wins kk = true := by rw [leastV, HB.out, hq]; rfl
       have E1 := Aside0.mk e1
       clear hq htk e1
       go_wp2_with (first | (go_at_call 96; refine (HVL.out _).mono ?_; rintro e w2 ⟨v2, rfl, ho2, hb2⟩; obtain ⟨A2, c2, rfl⟩ := Kd.R_slice ho2; have HO2 := Aside0.mk ho2; have HB2 := Aside0.mk hb2; clear ho2 hb2) | ((with_reducible refine gate_builtin (b := .append) (xs := #[.tmp 38, .tmp 41]) rfl ?_); at_builtin; refine Kd.R_append (Kd.slice 3 (Kd.int .i64)) (w0 := w) w.heap.size rfl (.tmp 38) (.tmp 41) 22 36 (.slice none 0 0) 24 rfl Tryz.underlying22 infoS rfl (by decide) (by omega) u3 (partS (leastV wins) kk) (setI kk) [.slice A2 (setI kk).length c2] (fun _ => True) (fun k_ => some k_ = (.slice A2 (setI kk).length c2 : Value).ownBlock) rfl rfl ?aP ?aQ (fun _ _ => trivial) ?aO ?aB ?aS (by omega) ?_; (case aP => exact Kd.M_row (Kd.R_tight rfl (Kd.R_lower HO2.out BW.out.size))); (case aQ => exact fun k hk => ⟨trivial, fun e => by have h1 := Kd.R_base HO2.out k hk.symm; have h2 := Kd.R_lt HO.out k e.symm; omega⟩); (case aO => exact Kd.R_below HO.out HB2.out); (case aB => exact Below.trans BW.out (HB2.out.mono BW.out.size)); (case aS => exact Nat.le_trans BW.out.size HB2.out.size); intro v3 w3 ho hb hg hat; have HO3 := Aside0.mk ho; have HB3 := Aside0.mk hb; clear ho hb hg hat))
       go_roundg (N - (kk + 1))
       case measure => omega
       case rel => exact ⟨kk + 1, by omega, by omega, by go_num, HB3, ⟨by rw [partS_yes E1.out]; exact HO3.out⟩⟩
  ·have hltz : ¬ (kk : Int) < (N : Int) := by omega
   obtain rfl : kk = N := by omega
   have hpl := partS_len (leastV wins) kk
   have ho := HO.out
   obtain ⟨A3, c3, hs3⟩ := Kd.R_slice ho
   subst hs3
   have hvs := voSorted_any w.heap.size (partS (leastV wins) kk) (by omega) (fun x hx => by
    obtain ⟨m, _, rfl⟩ := List.mem_map.1 hx
    rw [setI, List.length_map, setN]
    exact Nat.le_trans (List.length_filter_le _ _) (by simp)) A3 c3 _ BW.out.size ho
   have HVS := Aside0.mk hvs
   clear hvs ho
   go_wp2_with (go_at_call 97; refine HVS.out.mono ?_; rintro e w5 ⟨v5, rfl, ho5, hb5⟩; have HO5 := Aside0.mk ho5; have HB5 := Aside0.mk hb5; clear ho5 hb5)
   go_ret
   exact ⟨_, rfl, HO5.out, Below.trans BW.out (HB5.out.mono BW.out.size)⟩
def spec_voLeast.f (l0 : List Bool) : Option (List (List Int)) := if l0.length ≤ 512 then some (srtP befB (partS (leastV l0) l0.length)) else none
theorem spec_voLeast.calls (A0 : Option Addr) (c0 : Nat) (l0 : List Bool) (r : List (List Int)) (w : World) (hr0 : Kd.C Kd.bool w A0 l0.length l0) (hc0 : l0.length ≤ c0) (h : spec_voLeast.f l0 = some r) :
  Calls Tryz.prog 154 #[.slice A0 l0.length c0] w fun e w' => ∃ v0_ : Value, e = .returned (v0_) ∧ Kd.R (Kd.slice 3 (Kd.int .i64)) 36 w' w.heap.size (fun _ => True) v0_ r ∧ Below w.heap.size w w' := by
 unfold spec_voLeast.f at h
 split at h
 ·rename_i hl
  obtain rfl := Option.some.inj h
  exact voLeast_any l0 hl A0 c0 w hr0
 ·cases h
end Go.Proofs.YtnncjnjfdhbddaaGreat.Z
namespace Go.Proofs.YtnncjnjfdhbddaaGreat.Z
open Go.RowKit Go.Proofs.YtnncjnjfdhbddaaGreatW.PrintWords Go.Proofs.YtnncjnjfdhbddaaGreatW.PrintLast Go.Proofs.YtnncjnjfdhbddaaGreatW.PrintMore
attribute [local go_sem] max2_int min2_int max_two min_two max_three min_three max_four min_four
set_option linter.unusedVariables false
set_option linter.unusedSimpArgs false
def leastL (wins : List Bool) : List (List Int) := srtP befB (partS (leastV wins) wins.length)
set_option maxHeartbeats 1000000 in
theorem gmOf_any (n : Int) (wins : List Bool) (hw : wins.length ≤ 512) (A : Option Addr) (c : Nat) (w : World) (hr : Kd.C Kd.bool w A wins.length wins) (hc : wins.length ≤ c) :
  Calls Tryz.prog 128 #[.int .i64 n, .slice A wins.length c] w fun e w' => ∃ v, e = .returned (.agg #[.int .i64 n, v]) ∧ Kd.R (Kd.slice 3 (Kd.int .i64)) 36 w' w.heap.size (fun _ => True) v (leastL wins) ∧ Below w.heap.size w w' := by
 have hu28 := Tryz.underlying28
 have hvl := fun W' (hB : Below w.heap.size w W') => spec_voLeast.calls A c wins (leastL wins) W' (Kd.C_below hr hB) hc (by rw [spec_voLeast.f, if_pos hw]; rfl)
 have HVL := Aside0.mk hvl
 clear hvl hr hc hw
 generalize leastL wins = ls at *
 generalize wins.length = L at *
 go_enter Tryz.func128, Tryz.ntmps128
 go_wp2_with (go_at_call 154; refine (HVL.out _ ((Below.refl _ _).alloc (Nat.le_refl _) _)).mono ?_; rintro e w2 ⟨v2, rfl, ho, hb⟩; have HO := Aside0.mk ho; have hy := blk_below (heap1_0 w _) hb; have HY := Aside0.mk hy; have hz : w.heap.size < w2.heap.size := blk_lt hy; have hy0 : w2.cell? ⟨w.heap.size, 0, none⟩ = some (.int .i64 0) := (blk_cell hy 0).trans rfl; have hy1 : w2.cell? ⟨w.heap.size, 1, none⟩ = some (.slice none 0 0) := (blk_cell hy 1).trans rfl; have hf0 := blk_frozen hy 0; have hf1 := blk_frozen hy 1; have HB := Aside0.mk (show Below w.heap.size w w2 from Below.trans ((Below.refl _ _).alloc (Nat.le_refl _) _) (hb.mono (by simp))); obtain ⟨A2, c2, e2⟩ := Kd.R_slice ho; subst e2; clear ho hb hy)
 refine bodyPost_ret (results_cell_row rfl _ _ w.heap.size 28 #[.int .i64 n, .slice A2 ls.length c2] (0, 0) _ rfl (blk_set (blk_set HY.out 0 _) 1 _) Tryz.underlying28 rfl (by kernel_rfl)) rfl ?_
 exact ⟨_, rfl, Kd.R_lower (Kd.R_set (Kd.R_set HO.out HY.out (by decide) 0 _) (blk_set HY.out 0 _) (by decide) 1 _) (by simp), (HB.out.setCell (Nat.le_refl _) _).setCell (Nat.le_refl _) _⟩
end Go.Proofs.YtnncjnjfdhbddaaGreat.Z
namespace Go.Proofs.YtnncjnjfdhbddaaGreat.Z
open Go.RowKit Go.Proofs.YtnncjnjfdhbddaaGreatW.PrintWords Go.Proofs.YtnncjnjfdhbddaaGreatW.PrintLast Go.Proofs.YtnncjnjfdhbddaaGreatW.PrintMore
attribute [local go_sem] max2_int min2_int max_two min_two max_three min_three max_four min_four
set_option linter.unusedVariables false
set_option linter.unusedSimpArgs false
theorem game_at {W : World} {base n c : Nat} {A : Option Addr} {xs : List S28} (h : Kd.R k28 28 W base (fun _ => True) (.slice A n c) xs) (k : Nat) (hk : k < n) :
  ∃ ad A1 c1, A = some ad ∧ W.cell? (ad.add (k * 2)) = some (.int .i64 (xs.getD k z28).f0) ∧ W.cell? ⟨(ad.add (k * 2)).block, (ad.add (k * 2)).off + 1, none⟩ = some (.slice A1 (xs.getD k z28).f1.length c1) ∧ (xs.getD k z28).f1.length ≤ c1 ∧ Kd.C (Kd.slice 3 (Kd.int .i64)) W A1 (xs.getD k z28).f1.length (xs.getD k z28).f1 ∧ k28.M W base (fun k => k < W.heap.size) (xs.getD k z28) [.int .i64 (xs.getD k z28).f0, .slice A1 (xs.getD k z28).f1.length c1] := by
 obtain ⟨hn, _⟩ := Kd.R_reads' h
 obtain ⟨A', c', he, _, hr⟩ := R_rowsM h
 injection he with e1 _ _
 subst e1
 obtain ⟨ad, cs, e, hs, hM, hc⟩ := hr.get_ z28 (k : Int) (by omega) (by omega)
 rw [Int.toNat_natCast] at hM hc
 obtain ⟨v, rfl, hR⟩ := k28_openM hM
 obtain ⟨A1, c1, rfl, hl, hC⟩ := Kd.R_reads hR
 have h1 := hc 0 _ rfl
 have h2 := hc 1 _ rfl
 have e1 : k28.sz = 2 := rfl
 rw [e1] at h1 h2
 rw [Nat.add_zero] at h1
 rw [add_field _ _ 1 (by omega)] at h2
 exact ⟨ad, A1, c1, e, h1, h2, hl, hC, k28_mkM _ _ _ _ hR⟩
theorem R_empty {α : Type} (d : Kd α) (e base : Nat) {W : World} {g : Nat} (hg : W.heap[g]? = some (.cells #[] e (0, 0))) (hb : base ≤ g) : d.R e W base (fun _ => True) (.slice (some ⟨g, 0, none⟩) 0 0) [] :=
 ⟨fun _ _ => trivial, [], ⟨by simp, .inr ⟨g, 0, #[], rfl, hb, hg, Nat.le_refl _, by simp [maxLen], by simp, by simp⟩⟩, Reps.none _ _⟩
theorem box_row {Rr : S28 → List Value → Prop} {W : World} {g : Nat} {x : S28} {v : Value} (hg : W.heap[g]? = some (.cells #[.int .i64 x.f0, v] 28 (0, 0))) (hR : Rr x [.int .i64 x.f0, v]) : ReadsRow Rr 2 W (some ⟨g, 0, none⟩) 1 [x] := by
 refine ⟨rfl, by omega, fun _ => ⟨_, rfl, fun j p hj => ?_⟩⟩
 cases j with
 | succ j => simp at hj
 | zero =>
  obtain rfl : x = p := by simpa using hj
  refine ⟨_, rfl, hR, fun i u hu => ?_⟩
  rw [Nat.zero_mul, Nat.zero_add, add_plain, blk_cell hg i, ← hu]
  simp
theorem cutG (A : Option Addr) (n c j : Nat) (hj : j ≤ n) (hc : n ≤ c) :
  (∀ W : World, (Instr.slice 53 (.slice A n c) none (some (.int .i64 (j : Int))) none).run Tryz.prog W = .ok (.slice A j c) W) ∧
  (∀ W : World, (Instr.slice 53 (.slice A n c) (some (.int .i64 (j : Int))) none none).run Tryz.prog W = .ok (.slice (if c = j then A else A.map (·.add (j * 2))) (n - j) (c - j)) W) := by
 obtain ⟨i, hi, hz⟩ := Option.map_eq_some_iff.1 infoG
 simp only [Prod.mk.injEq] at hz
 have h1 := cut_to (P := Tryz.prog) 53 28 .i64 Tryz.underlying53 hi A n c (j : Int) (by omega) (by omega) hc
 have h2 := cut_from (P := Tryz.prog) 53 28 .i64 Tryz.underlying53 hi 2 hz.2.1 A n c (j : Int) (by omega) (by omega)
 rw [Int.toNat_natCast] at h1 h2
 exact ⟨h1, h2⟩
end Go.Proofs.YtnncjnjfdhbddaaGreat.Z
namespace Go.Proofs.YtnncjnjfdhbddaaGreat.Z
open Go.RowKit Go.Proofs.YtnncjnjfdhbddaaGreatW.PrintWords Go.Proofs.YtnncjnjfdhbddaaGreatW.PrintLast Go.Proofs.YtnncjnjfdhbddaaGreatW.PrintMore
attribute [local go_sem] max2_int min2_int max_two min_two max_three min_three max_four min_four
set_option linter.unusedVariables false
set_option linter.unusedSimpArgs false
def WRow (b : Nat) (l : List Bool) (W : World) : Prop := W.heap[b]? = some (.cells (l.map Value.bool).toArray 4 (0, 0))
theorem WRow.cell {b : Nat} {l : List Bool} {W : World} (H : WRow b l W) (k : Nat) (hk : k < l.length) : W.cell? ⟨b, k, none⟩ = some (.bool (l.getD k false)) := by
 rw [blk_cell H k]
 simp [hk, List.getD_eq_getElem?_getD]
theorem WRow.set {b : Nat} {l : List Bool} {W : World} (H : WRow b l W) (k : Nat) (c : Bool) : WRow b (l.set k c) (W.setCell ⟨b, k, none⟩ (.bool c)) := by
 have := blk_set H k (.bool c)
 unfold WRow
 rw [this]
 simp [List.map_set]
theorem WRow.C {b : Nat} {l : List Bool} {W : World} (H : WRow b l W) (hl : l.length ≤ 512) : Kd.C Kd.bool W (some ⟨b, 0, none⟩) l.length l := by
 refine ⟨rfl, by omega, fun _ => ⟨_, rfl, fun j p hj => ⟨[.bool p], rfl, rfl, fun i u hu => ?_⟩⟩⟩
 cases i with
 | succ i => simp at hu
 | zero =>
  obtain rfl : Value.bool p = u := by simpa using hu
  show W.cell? ((⟨b, 0, none⟩ : Addr).add (j * 1 + 0)) = _
  rw [add_plain, Nat.mul_one, Nat.add_zero, blk_cell H j]
  simp [hj]
theorem WRow.R {b base : Nat} {l : List Bool} {W : World} (H : WRow b l W) (hb : base ≤ b) (hl : l.length ≤ 512) : Kd.R Kd.bool 4 W base (fun _ => True) (.slice (some ⟨b, 0, none⟩) l.length l.length) l :=
 Kd.R_of_own ⟨by simp [encs], .inr ⟨b, l.length, _, rfl, hb, H, Nat.le_refl _, by unfold maxLen; omega, by simp, by rw [Nat.mul_one]; exact List.take_of_length_le (by simp)⟩⟩ (fun _ _ => trivial)
end Go.Proofs.YtnncjnjfdhbddaaGreat.Z
namespace Go.Proofs.YtnncjnjfdhbddaaGreat.Z
open Go.RowKit Go.Proofs.YtnncjnjfdhbddaaGreatW.PrintWords Go.Proofs.YtnncjnjfdhbddaaGreatW.PrintLast Go.Proofs.YtnncjnjfdhbddaaGreatW.PrintMore
attribute [local go_sem] max2_int min2_int max_two min_two max_three min_three max_four min_four
set_option linter.unusedVariables false
set_option linter.unusedSimpArgs false
def spec_pzOne.f (a0 : Bool) : Option (Int) := if a0 = true then (some 1) else (some 0)
set_option maxHeartbeats 8000000 in
set_option maxRecDepth 100000 in
theorem spec_pzOne.calls (a0 : Bool) (r : Int) (w : World) (h : spec_pzOne.f a0 = some r) :
  Calls Tryz.prog 176 #[.bool a0] w fun e w' => e = .returned (.int .i64 r) ∧ Drawn0 w w' := by
 have H : (if a0 = true then (some 1) else (some 0)) = some r := h
 clear h
 by_cases c2 : a0 = true
 ·subst c2
  have H1 : (some 1) = some r := by rw [if_pos rfl] at H; exact H
  clear H
  have H := H1
  clear H1
  obtain rfl := Option.some.inj H
  go_enter Tryz.func176, Tryz.ntmps176
  go_wp2
  go_ret
  exact ⟨by first | rfl | (simp; done) | (simp [*]; done), by repeat (first | exact Drawn0.refl _ | apply Drawn0.step)⟩
 ·replace c2 := Bool.eq_false_iff.mpr c2
  subst c2
  have H1 : (some 0) = some r := by rw [if_neg (show ¬ (false = true) by decide)] at H; exact H
  clear H
  have H := H1
  clear H1
  obtain rfl := Option.some.inj H
  go_enter Tryz.func176, Tryz.ntmps176
  go_wp2
  go_ret
  exact ⟨by first | rfl | (simp; done) | (simp [*]; done), by repeat (first | exact Drawn0.refl _ | apply Drawn0.step)⟩
end Go.Proofs.YtnncjnjfdhbddaaGreat.Z
namespace Go.Proofs.YtnncjnjfdhbddaaGreat.Z
open Go.RowKit Go.Proofs.YtnncjnjfdhbddaaGreatW.PrintWords Go.Proofs.YtnncjnjfdhbddaaGreatW.PrintLast Go.Proofs.YtnncjnjfdhbddaaGreatW.PrintMore
attribute [local go_sem] max2_int min2_int max_two min_two max_three min_three max_four min_four
set_option linter.unusedVariables false
set_option linter.unusedSimpArgs false
def spec_pwSwings.l0 : Nat → List Bool → Int → List Int → List Bool → Int → Int → Option (List Int)
 | 0, _, _, _, _, _, _ => none
 | k + 1, x0, x1, x5, x8, x9, x10 => if x10 < x9 then (if 0 ≤ x10 then (if x10 < (x8.length : Int) then (if 0 ≤ x1 then (if (Int.tmod (shr .i64 x10 x1) 2) = 0 then (if rdOf false x8 x10 = true then (spec_pwSwings.l0 k x0 x1 x5 x8 x9 (wrap64 (x10 + 1))) else (if 0 ≤ (wrap64 (x10 + (shl .i64 1 x1))) then (if (wrap64 (x10 + (shl .i64 1 x1))) < (x0.length : Int) then (if rdOf false x0 (wrap64 (x10 + (shl .i64 1 x1))) = true then (if x5.length < 17592186044416 then (spec_pwSwings.l0 k x0 x1 (x5 ++ [x10]) x8 x9 (wrap64 (x10 + 1))) else (none)) else (spec_pwSwings.l0 k x0 x1 x5 x8 x9 (wrap64 (x10 + 1)))) else (none)) else (none))) else (spec_pwSwings.l0 k x0 x1 x5 x8 x9 (wrap64 (x10 + 1)))) else (none)) else (none)) else (none)) else (some x5)
def spec_pwSwings.f (k : Nat) (l0 : List Bool) (a1 : Int) : Option (List Int) := spec_pwSwings.l0 k l0 a1 ([] : List Int) l0 (l0.length : Int) 0
set_option maxHeartbeats 8000000 in
set_option maxRecDepth 100000 in
theorem spec_pwSwings.calls (k : Nat) (A0 : Option Addr) (c0 : Nat) (l0 : List Bool) (a1 : Int) (r : List Int) (w : World) (hr0 : Kd.C Kd.bool w A0 l0.length l0) (hc0 : l0.length ≤ c0) (h : spec_pwSwings.f k l0 a1 = some r) :
  Calls Tryz.prog 177 #[.slice A0 l0.length c0, .int .i64 a1] w fun e w' => ∃ v0_ : Value, e = .returned (v0_) ∧ Kd.R (Kd.int .i64) 3 w' w.heap.size (fun _ => True) v0_ r ∧ Below w.heap.size w w' := by
 have HR0 := Aside0.mk hr0
 have HC0 := Aside0.mk hc0
 clear hr0 hc0
 have HB := Aside0.mk (Below.refl w.heap.size w)
 have H : (spec_pwSwings.l0 k l0 a1 ([] : List Int) l0 (l0.length : Int) 0) = some r := h
 clear h
 have H' := Aside0.mk H
 clear H
 go_enter Tryz.func177, Tryz.ntmps177
 go_wp2
 go_loopg [5, 10] k (fun kq v5 v10 w' => ∃ (x5_1 : List Int) (x10_1 : Int), v10 = .int .i64 x10_1 ∧ Aside0 (spec_pwSwings.l0 kq l0 a1 x5_1 l0 (l0.length : Int) x10_1 = some r) ∧ Aside0 (kq ≤ k) ∧ Aside0 (Kd.R (Kd.int .i64) 3 w' w.heap.size (fun _ => True) v5 x5_1) ∧ Aside0 (Below w.heap.size w w'))
 case atStart => exact ⟨(([] : List Int)), (0), (by first | rfl | (simp; done) | (simp [*]; done)), H', ⟨Nat.le_refl _⟩, ⟨by first | exact Kd.R_nil _ _ _ _ _ | exact Kd.N_nil _ _ _ _ _ | exact Kd.V_nil _ _ _ _ _ | exact Kd.Q_nil _ _ _ _ _ | exact Kd.S_nil _ _ _ _ _⟩, ⟨by repeat (first | (with_reducible first | exact HB.out | apply below_alloc | apply pw_below_drewN | apply below_drew1) | exact HB.out)⟩⟩
 case round =>
  clear H'
  try clear c1
  try clear p2
  obtain ⟨x5_1, x10_1, rfl, HA, HK1, HO_5, HB⟩ := hrel
  cases gk with
  | zero => exact absurd HA.out (by simp [spec_pwSwings.l0])
  | succ k1 =>
   have H := HA.out
   clear HA
   simp only [spec_pwSwings.l0] at H
   by_cases c3 : x10_1 < (l0.length : Int)
   ·rw [if_pos c3] at H
    have c3b0 : decide (x10_1 < (l0.length : Int)) = true := decide_eq_true c3
    clear c3
    by_cases c4 : 0 ≤ x10_1
    ·rw [if_pos c4] at H
     have c4b0 : decide (0 ≤ x10_1) = true := decide_eq_true c4
     clear c4
     by_cases c5 : x10_1 < (l0.length : Int)
     ·rw [if_pos c5] at H
      have c5b0 : decide (x10_1 < (l0.length : Int)) = true := decide_eq_true c5
      clear c5
      by_cases c6 : 0 ≤ a1
      ·rw [if_pos c6] at H
       have c6b0 := eq_true c6
       have c6b1 : decide (0 ≤ a1) = true := decide_eq_true c6
       clear c6
       obtain ⟨ji7, hji7⟩ : ∃ j_ : Int, (shr .i64 x10_1 a1) = j_ := ⟨_, rfl⟩
       replace H : (if (Int.tmod (ji7) 2) = 0 then (if rdOf false l0 x10_1 = true then (spec_pwSwings.l0 k1 l0 a1 x5_1 l0 (l0.length : Int) (wrap64 (x10_1 + 1))) else (if 0 ≤ (wrap64 (x10_1 + (shl .i64 1 a1))) then (if (wrap64 (x10_1 + (shl .i64 1 a1))) < (l0.length : Int) then (if rdOf false l0 (wrap64 (x10_1 + (shl .i64 1 a1))) = true then (if x5_1.length < 17592186044416 then (spec_pwSwings.l0 k1 l0 a1 (x5_1 ++ [x10_1]) l0 (l0.length : Int) (wrap64 (x10_1 + 1))) else (none)) else (spec_pwSwings.l0 k1 l0 a1 x5_1 l0 (l0.length : Int) (wrap64 (x10_1 + 1)))) else (none)) else (none))) else (spec_pwSwings.l0 k1 l0 a1 x5_1 l0 (l0.length : Int) (wrap64 (x10_1 + 1)))) = some r := by first | (rw [hji7] at H; exact H) | (simp only [hji7] at H ⊢; exact H)
       have hji7_ : (x10_1 / 2 ^ min a1.toNat 64) = ji7 := hji7
       have hji7z : a1 ≤ 64 → (x10_1 / 2 ^ a1.toNat) = ji7 := shr_small hji7
       by_cases c8 : (Int.tmod (ji7) 2) = 0
       ·rw [if_pos c8] at H
        have c8b0 : ((Int.tmod (ji7) 2) == 0) = true := beq_iff_eq.mpr c8
        have c8b1 : ((Int.tmod (ji7) 2) != 0) = false := bne_eq_false_iff_eq.mpr c8
        clear c8
        obtain ⟨bq9, hbq9⟩ : ∃ b_ : Bool, b_ = (rdOf false l0 x10_1) := ⟨_, rfl⟩
        replace H : (if bq9 = true then (spec_pwSwings.l0 k1 l0 a1 x5_1 l0 (l0.length : Int) (wrap64 (x10_1 + 1))) else (if 0 ≤ (wrap64 (x10_1 + (shl .i64 1 a1))) then (if (wrap64 (x10_1 + (shl .i64 1 a1))) < (l0.length : Int) then (if rdOf false l0 (wrap64 (x10_1 + (shl .i64 1 a1))) = true then (if x5_1.length < 17592186044416 then (spec_pwSwings.l0 k1 l0 a1 (x5_1 ++ [x10_1]) l0 (l0.length : Int) (wrap64 (x10_1 + 1))) else (none)) else (spec_pwSwings.l0 k1 l0 a1 x5_1 l0 (l0.length : Int) (wrap64 (x10_1 + 1)))) else (none)) else (none))) = some r := by rw [← hbq9] at H; exact H
        have Nbq9 := Aside0.mk hbq9
        clear hbq9
        by_cases c10 : bq9 = true
        ·subst c10
         have H1 : (spec_pwSwings.l0 k1 l0 a1 x5_1 l0 (l0.length : Int) (wrap64 (x10_1 + 1))) = some r := by rw [if_pos rfl] at H; exact H
         clear H
         have H := H1
         clear H1
         have H' := Aside0.mk H
         clear H
         have p627 : 0 ≤ (x10_1 : Int) := of_decide_eq_true (by first | (with_reducible assumption) | assumption)
         have q627 : x10_1 < (l0.length : Int) := of_decide_eq_true (by first | (with_reducible assumption) | assumption)
         obtain ⟨ad627, e627, hx627_0⟩ := Kd.at_bool HR0.out x10_1 p627 q627
         (try rw [← Nbq9.out] at hx627_0)
         cases e627
         replace hx627_0 := (HB.out.cell (World.block_lt_of_cell? w _ hx627_0)).trans hx627_0
         replace p627 := eq_true p627
         replace q627 := eq_true q627
         go_wp2
         go_roundg k1
         case measure => have := HK1.out; omega
         case rel => exact ⟨(x5_1), (wrap64 (x10_1 + 1)), (by first | rfl | (simp; done) | (simp [*]; done)), H', ⟨by have := HK1.out; omega⟩, ⟨by (with_reducible repeat (first | apply Kd.R_alloc | apply Kd.R_drewN | apply Kd.R_drew)); exact HO_5.out⟩, ⟨by repeat (first | (with_reducible first | exact HB.out | apply below_alloc | apply pw_below_drewN | apply below_drew1) | exact HB.out)⟩⟩
        ·replace c10 := Bool.eq_false_iff.mpr c10
         subst c10
         have H1 : (if 0 ≤ (wrap64 (x10_1 + (shl .i64 1 a1))) then (if (wrap64 (x10_1 + (shl .i64 1 a1))) < (l0.length : Int) then (if rdOf false l0 (wrap64 (x10_1 + (shl .i64 1 a1))) = true then (if x5_1.length < 17592186044416 then (spec_pwSwings.l0 k1 l0 a1 (x5_1 ++ [x10_1]) l0 (l0.length : Int) (wrap64 (x10_1 + 1))) else (none)) else (spec_pwSwings.l0 k1 l0 a1 x5_1 l0 (l0.length : Int) (wrap64 (x10_1 + 1)))) else (none)) else (none)) = some r := by rw [if_neg (show ¬ (false = true) by decide)] at H; exact H
         clear H
         have H := H1
         clear H1
         have c11b0 := eq_true (of_decide_eq_true (by first | (with_reducible assumption) | assumption) : 0 ≤ a1)
         obtain ⟨ji12, hji12⟩ : ∃ j_ : Int, (shl .i64 1 a1) = j_ := ⟨_, rfl⟩
         replace H : (if 0 ≤ (wrap64 (x10_1 + (ji12))) then (if (wrap64 (x10_1 + (ji12))) < (l0.length : Int) then (if rdOf false l0 (wrap64 (x10_1 + (ji12))) = true then (if x5_1.length < 17592186044416 then (spec_pwSwings.l0 k1 l0 a1 (x5_1 ++ [x10_1]) l0 (l0.length : Int) (wrap64 (x10_1 + 1))) else (none)) else (spec_pwSwings.l0 k1 l0 a1 x5_1 l0 (l0.length : Int) (wrap64 (x10_1 + 1)))) else (none)) else (none)) = some r := by first | (rw [hji12] at H; exact H) | (simp only [hji12] at H ⊢; exact H)
         have hji12_ : (IntKind.i64.wrap (1 * 2 ^ min a1.toNat 64)) = ji12 := hji12
         have hji12z : a1 ≤ 64 → (IntKind.i64.wrap (1 * 2 ^ a1.toNat)) = ji12 := shl_small hji12
         have hji12u : (IntKind.i64.wrap (2 ^ min a1.toNat 64)) = ji12 := by have h_ := hji12_; rw [Int.one_mul] at h_; exact h_
         have hji12v : a1 ≤ 64 → (IntKind.i64.wrap (2 ^ a1.toNat)) = ji12 := fun hle_ => by have h_ := hji12z hle_; rw [Int.one_mul] at h_; exact h_
         have hji12y : (wrap64 (1 * 2 ^ min a1.toNat 64)) = ji12 := (i64_w _).symm.trans hji12_
         have hji12x : a1 ≤ 64 → (wrap64 (1 * 2 ^ a1.toNat)) = ji12 := fun h_ => (i64_w _).symm.trans (hji12z h_)
         obtain ⟨ji13, hji13⟩ : ∃ j_ : Int, (wrap64 (x10_1 + (ji12))) = j_ := ⟨_, rfl⟩
         replace H : (if 0 ≤ (ji13) then (if (ji13) < (l0.length : Int) then (if rdOf false l0 (ji13) = true then (if x5_1.length < 17592186044416 then (spec_pwSwings.l0 k1 l0 a1 (x5_1 ++ [x10_1]) l0 (l0.length : Int) (wrap64 (x10_1 + 1))) else (none)) else (spec_pwSwings.l0 k1 l0 a1 x5_1 l0 (l0.length : Int) (wrap64 (x10_1 + 1)))) else (none)) else (none)) = some r := by first | (rw [hji13] at H; exact H) | (simp only [hji13] at H ⊢; exact H)
         have hji13w : (IntKind.i64.wrap (x10_1 + (ji12))) = ji13 := (i64_w _).trans hji13
         by_cases c14 : 0 ≤ (ji13)
         ·rw [if_pos c14] at H
          have c14b0 : decide (0 ≤ (ji13)) = true := decide_eq_true c14
          clear c14
          by_cases c15 : (ji13) < (l0.length : Int)
          ·rw [if_pos c15] at H
           have c15b0 : decide ((ji13) < (l0.length : Int)) = true := decide_eq_true c15
           clear c15
           obtain ⟨bq16, hbq16⟩ : ∃ b_ : Bool, b_ = (rdOf false l0 (ji13)) := ⟨_, rfl⟩
           replace H : (if bq16 = true then (if x5_1.length < 17592186044416 then (spec_pwSwings.l0 k1 l0 a1 (x5_1 ++ [x10_1]) l0 (l0.length : Int) (wrap64 (x10_1 + 1))) else (none)) else (spec_pwSwings.l0 k1 l0 a1 x5_1 l0 (l0.length : Int) (wrap64 (x10_1 + 1)))) = some r := by rw [← hbq16] at H; exact H
           have Nbq16 := Aside0.mk hbq16
           clear hbq16
           by_cases c17 : bq16 = true
           ·subst c17
            have H1 : (if x5_1.length < 17592186044416 then (spec_pwSwings.l0 k1 l0 a1 (x5_1 ++ [x10_1]) l0 (l0.length : Int) (wrap64 (x10_1 + 1))) else (none)) = some r := by rw [if_pos rfl] at H; exact H
            clear H
            have H := H1
            clear H1
            by_cases c18 : x5_1.length < 17592186044416
            ·rw [if_pos c18] at H
             have LMc18 := Aside0.mk c18
             clear c18
             obtain ⟨y629, hy629⟩ : ∃ y_ : List Int, y_ = (x5_1 ++ [x10_1]) := ⟨_, rfl⟩
             replace H : (spec_pwSwings.l0 k1 l0 a1 y629 l0 (l0.length : Int) (wrap64 (x10_1 + 1))) = some r := by first | (rw [hy629]; with_reducible exact H) | (have H2_ := (Option.bind_some _ _).symm.trans H; rw [hy629]; with_reducible exact H2_) | (have H2_ := (Option.bind_some _ _).symm.trans H; with_reducible exact H2_) | with_reducible exact H | (rw [hy629]; exact H) | exact H
             have Ny629 := Aside0.mk hy629
             clear hy629
             have H' := Aside0.mk H
             clear H
             have p627 : 0 ≤ (x10_1 : Int) := of_decide_eq_true (by first | (with_reducible assumption) | assumption)
             have q627 : x10_1 < (l0.length : Int) := of_decide_eq_true (by first | (with_reducible assumption) | assumption)
             obtain ⟨ad627, e627, hx627_0⟩ := Kd.at_bool HR0.out x10_1 p627 q627
             (try rw [← Nbq9.out] at hx627_0)
             (try rw [← Nbq16.out] at hx627_0)
             cases e627
             replace hx627_0 := (HB.out.cell (World.block_lt_of_cell? w _ hx627_0)).trans hx627_0
             replace p627 := eq_true p627
             replace q627 := eq_true q627
             have p628 : 0 ≤ ((ji13) : Int) := of_decide_eq_true (by first | (with_reducible assumption) | assumption)
             have q628 : (ji13) < (l0.length : Int) := of_decide_eq_true (by first | (with_reducible assumption) | assumption)
             obtain ⟨ad628, e628, hx628_0⟩ := Kd.at_bool HR0.out (ji13) p628 q628
             (try rw [← Nbq9.out] at hx628_0)
             (try rw [← Nbq16.out] at hx628_0)
             obtain rfl : ad627 = ad628 := (by injection e628)
             replace hx628_0 := (HB.out.cell (World.block_lt_of_cell? w _ hx628_0)).trans hx628_0
             replace p628 := eq_true p628
             replace q628 := eq_true q628
             go_wp2_with (first | ((with_reducible refine gate_builtin (b := .append) (xs := #[.tmp 33, .tmp 35]) rfl ?_); at_builtin; refine Kd.R_append (Kd.int .i64) (w0 := w) w.heap.size rfl (.tmp 33) (.tmp 35) 36 3 (.int .i64 0) 8 rfl Tryz.underlying36 info3 rfl (by decide) (by omega) u5 x5_1 x10_1 [.int .i64 x10_1] (fun _ => True) (fun _ => False) rfl rfl ?aP (fun _ hk => hk.elim) ?aF ?aO ?aB ?aS ?aL ?_; (case aP => exact rfl); (case aB => exact (by repeat (first | (with_reducible first | exact HB.out | apply below_alloc | apply pw_below_drewN | apply below_drew1) | exact HB.out))); (case aF => exact (fun _ _ => trivial)); (case aO => exact (by (with_reducible repeat (first | apply Kd.R_alloc | apply Kd.R_drewN | apply Kd.R_drew)); exact HO_5.out)); (case aS => exact (below_size (by repeat (first | (with_reducible first | exact HB.out | apply below_alloc | apply pw_below_drewN | apply below_drew1) | exact HB.out)))); (case aL => have := LMc18.out; omega); intro v630 w19 ho hb hg hat; rw [← Ny629.out] at ho; have n0_ := Aside0.mk (hb); have n1_ := Aside0.mk (ho); clear HB; clear HO_5; have HB := n0_; have HO631 := n1_; clear n0_ n1_; clear ho hb hg hat))
             go_roundg k1
             case measure => have := HK1.out; omega
             case rel => exact ⟨(y629), (wrap64 (x10_1 + 1)), (by first | rfl | (simp; done) | (simp [*]; done)), H', ⟨by have := HK1.out; omega⟩, ⟨by (with_reducible repeat (first | apply Kd.R_alloc | apply Kd.R_drewN | apply Kd.R_drew)); exact HO631.out⟩, ⟨by repeat (first | (with_reducible first | exact HB.out | apply below_alloc | apply pw_below_drewN | apply below_drew1) | exact HB.out)⟩⟩
            ·rw [if_neg c18] at H
             exact absurd H (by simp)
           ·replace c17 := Bool.eq_false_iff.mpr c17
            subst c17
            have H1 : (spec_pwSwings.l0 k1 l0 a1 x5_1 l0 (l0.length : Int) (wrap64 (x10_1 + 1))) = some r := by rw [if_neg (show ¬ (false = true) by decide)] at H; exact H
            clear H
            have H := H1
            clear H1
            have H' := Aside0.mk H
            clear H
            have p627 : 0 ≤ (x10_1 : Int) := of_decide_eq_true (by first | (with_reducible assumption) | assumption)
            have q627 : x10_1 < (l0.length : Int) := of_decide_eq_true (by first | (with_reducible assumption) | assumption)
            obtain ⟨ad627, e627, hx627_0⟩ := Kd.at_bool HR0.out x10_1 p627 q627
            (try rw [← Nbq9.out] at hx627_0)
            (try rw [← Nbq16.out] at hx627_0)
            cases e627
            replace hx627_0 := (HB.out.cell (World.block_lt_of_cell? w _ hx627_0)).trans hx627_0
            replace p627 := eq_true p627
            replace q627 := eq_true q627
            have p628 : 0 ≤ ((ji13) : Int) := of_decide_eq_true (by first | (with_reducible assumption) | assumption)
            have q628 : (ji13) < (l0.length : Int) := of_decide_eq_true (by first | (with_reducible assumption) | assumption)
            obtain ⟨ad628, e628, hx628_0⟩ := Kd.at_bool HR0.out (ji13) p628 q628
            (try rw [← Nbq9.out] at hx628_0)
            (try rw [← Nbq16.out] at hx628_0)
            obtain rfl : ad627 = ad628 := (by injection e628)
            replace hx628_0 := (HB.out.cell (World.block_lt_of_cell? w _ hx628_0)).trans hx628_0
            replace p628 := eq_true p628
            replace q628 := eq_true q628
            go_wp2
            go_roundg k1
            case measure => have := HK1.out; omega
            case rel => exact ⟨(x5_1), (wrap64 (x10_1 + 1)), (by first | rfl | (simp; done) | (simp [*]; done)), H', ⟨by have := HK1.out; omega⟩, ⟨by (with_reducible repeat (first | apply Kd.R_alloc | apply Kd.R_drewN | apply Kd.R_drew)); exact HO_5.out⟩, ⟨by repeat (first | (with_reducible first | exact HB.out | apply below_alloc | apply pw_below_drewN | apply below_drew1) | exact HB.out)⟩⟩
          ·rw [if_neg c15] at H
           exact absurd H (by simp)
         ·rw [if_neg c14] at H
          exact absurd H (by simp)
       ·rw [if_neg c8] at H
        have c8b0 : ((Int.tmod (ji7) 2) == 0) = false := beq_eq_false_iff_ne.mpr c8
        have c8b1 : ((Int.tmod (ji7) 2) != 0) = true := bne_iff_ne.mpr c8
        have H' := Aside0.mk H
        clear H
        have p627 : 0 ≤ (x10_1 : Int) := of_decide_eq_true (by first | (with_reducible assumption) | assumption)
        have q627 : x10_1 < (l0.length : Int) := of_decide_eq_true (by first | (with_reducible assumption) | assumption)
        obtain ⟨ad627, e627, hx627_0⟩ := Kd.at_bool HR0.out x10_1 p627 q627
        cases e627
        replace hx627_0 := (HB.out.cell (World.block_lt_of_cell? w _ hx627_0)).trans hx627_0
        replace p627 := eq_true p627
        replace q627 := eq_true q627
        go_wp2
        go_roundg k1
        case measure => have := HK1.out; omega
        case rel => exact ⟨(x5_1), (wrap64 (x10_1 + 1)), (by first | rfl | (simp; done) | (simp [*]; done)), H', ⟨by have := HK1.out; omega⟩, ⟨by (with_reducible repeat (first | apply Kd.R_alloc | apply Kd.R_drewN | apply Kd.R_drew)); exact HO_5.out⟩, ⟨by repeat (first | (with_reducible first | exact HB.out | apply below_alloc | apply pw_below_drewN | apply below_drew1) | exact HB.out)⟩⟩
      ·rw [if_neg c6] at H
       exact absurd H (by simp)
     ·rw [if_neg c5] at H
      exact absurd H (by simp)
    ·rw [if_neg c4] at H
     exact absurd H (by simp)
   ·rw [if_neg c3] at H
    have c3b0 : decide (x10_1 < (l0.length : Int)) = false := decide_eq_false c3
    clear c3
    obtain rfl := Option.some.inj H
    go_wp2
    go_ret
    exact ⟨_, by first | rfl | (simp [errW_none, errW_some] <;> rfl) | (simp [*, errW_none, errW_some] <;> rfl), by (with_reducible repeat (first | apply Kd.R_alloc | apply Kd.R_drewN | apply Kd.R_drew)); exact HO_5.out, by repeat (first | (with_reducible first | exact HB.out | apply below_alloc | apply pw_below_drewN | apply below_drew1) | exact HB.out)⟩
end Go.Proofs.YtnncjnjfdhbddaaGreat.Z
namespace Go.Proofs.YtnncjnjfdhbddaaGreat.Z
open Go.RowKit Go.Proofs.YtnncjnjfdhbddaaGreatW.PrintWords Go.Proofs.YtnncjnjfdhbddaaGreatW.PrintLast Go.Proofs.YtnncjnjfdhbddaaGreatW.PrintMore
attribute [local go_sem] max2_int min2_int max_two min_two max_three min_three max_four min_four
set_option linter.unusedVariables false
set_option linter.unusedSimpArgs false
mutual
def spec_pzValue.l0 : Nat → Int → List Bool → Int → Int → Option (Int)
 | 0, _, _, _, _ => none
 | k + 1, x8, x25, x26, x27 => if x27 < x26 then (if 0 ≤ x27 then (if x27 < (x25.length : Int) then ((spec_pzOne.f (rdOf false x25 x27)).bind fun t635 => (spec_pzValue.l0 k (wrap64 (x8 + t635)) x25 x26 (wrap64 (x27 + 1)))) else (none)) else (none)) else (some x8)
def spec_pzValue.l1 : Nat → Int → List Bool → Int → Int → Int → Option (Int)
 | 0, _, _, _, _, _ => none
 | k + 1, x0, x2, x7, x55, x56 => if x56 < x55 then (if x0 = 4 then (if 0 ≤ x56 then (if x56 < (x2.length : Int) then (if rdOf false x2 x56 = true then (if 0 ≤ (wrap64 (x7 - x56)) then (if (wrap64 (x7 - x56)) < (x2.length : Int) then (if rdOf false x2 (wrap64 (x7 - x56)) = true then (some 0) else (if x0 = 5 then (spec_pzValue.l1 k x0 x2 x7 x55 (wrap64 (x56 + 1))) else (spec_pzValue.l1 k x0 x2 x7 x55 (wrap64 (x56 + 1))))) else (none)) else (none)) else (if x0 = 5 then (if 0 ≤ (wrap64 (x7 - x56)) then (if (wrap64 (x7 - x56)) < (x2.length : Int) then (if (rdOf false x2 (wrap64 (x7 - x56)) = true) then (spec_pzValue.l1 k x0 x2 x7 x55 (wrap64 (x56 + 1))) else (some 0)) else (none)) else (none)) else (spec_pzValue.l1 k x0 x2 x7 x55 (wrap64 (x56 + 1))))) else (none)) else (none)) else (if x0 = 5 then (if 0 ≤ x56 then (if x56 < (x2.length : Int) then (if rdOf false x2 x56 = true then (spec_pzValue.l1 k x0 x2 x7 x55 (wrap64 (x56 + 1))) else (if 0 ≤ (wrap64 (x7 - x56)) then (if (wrap64 (x7 - x56)) < (x2.length : Int) then (if (rdOf false x2 (wrap64 (x7 - x56)) = true) then (spec_pzValue.l1 k x0 x2 x7 x55 (wrap64 (x56 + 1))) else (some 0)) else (none)) else (none))) else (none)) else (none)) else (spec_pzValue.l1 k x0 x2 x7 x55 (wrap64 (x56 + 1))))) else (some 1)
end
def spec_pzValue.f (k : Nat) (a0 : Int) (a1 : Int) (l2 : List Bool) : Option (Int) := if a0 = 0 then (if 0 ≤ a1 then (if a1 < (l2.length : Int) then ((spec_pzOne.f (rdOf false l2 a1)).bind fun t633 => (some t633)) else (none)) else (none)) else (if a0 = 1 then (spec_pzValue.l0 k 0 l2 (l2.length : Int) 0) else (if a0 = 2 then (if 0 ≤ a1 then (if 0 ≤ (wrap64 ((wrap64 ((l2.length : Int) - 1)) - (shl .i64 1 a1))) then (if (wrap64 ((wrap64 ((l2.length : Int) - 1)) - (shl .i64 1 a1))) < (l2.length : Int) then ((spec_pzOne.f (!(rdOf false l2 (wrap64 ((wrap64 ((l2.length : Int) - 1)) - (shl .i64 1 a1)))))).bind fun t637 => (some t637)) else (none)) else (none)) else (none)) else (if a0 = 3 then ((spec_pwSwings.f k l2 a1).bind fun t638 => (some (t638.length : Int))) else (spec_pzValue.l1 k a0 l2 (wrap64 ((l2.length : Int) - 1)) (l2.length : Int) 0))))
set_option maxHeartbeats 8000000 in
set_option maxRecDepth 100000 in
theorem spec_pzValue.calls (k : Nat) (a0 : Int) (a1 : Int) (A2 : Option Addr) (c2 : Nat) (l2 : List Bool) (r : Int) (w : World) (hr2 : Kd.C Kd.bool w A2 l2.length l2) (hc2 : l2.length ≤ c2) (h : spec_pzValue.f k a0 a1 l2 = some r) :
  Calls Tryz.prog 153 #[.int .i64 a0, .int .i64 a1, .slice A2 l2.length c2] w fun e w' => e = .returned (.int .i64 r) ∧ Below w.heap.size w w' := by
 have HR2 := Aside0.mk hr2
 have HC2 := Aside0.mk hc2
 clear hr2 hc2
 have HB := Aside0.mk (Below.refl w.heap.size w)
 have H : (if a0 = 0 then (if 0 ≤ a1 then (if a1 < (l2.length : Int) then ((spec_pzOne.f (rdOf false l2 a1)).bind fun t633 => (some t633)) else (none)) else (none)) else (if a0 = 1 then (spec_pzValue.l0 k 0 l2 (l2.length : Int) 0) else (if a0 = 2 then (if 0 ≤ a1 then (if 0 ≤ (wrap64 ((wrap64 ((l2.length : Int) - 1)) - (shl .i64 1 a1))) then (if (wrap64 ((wrap64 ((l2.length : Int) - 1)) - (shl .i64 1 a1))) < (l2.length : Int) then ((spec_pzOne.f (!(rdOf false l2 (wrap64 ((wrap64 ((l2.length : Int) - 1)) - (shl .i64 1 a1)))))).bind fun t637 => (some t637)) else (none)) else (none)) else (none)) else (if a0 = 3 then ((spec_pwSwings.f k l2 a1).bind fun t638 => (some (t638.length : Int))) else (spec_pzValue.l1 k a0 l2 (wrap64 ((l2.length : Int) - 1)) (l2.length : Int) 0))))) = some r := h
 clear h
 by_cases c4 : a0 = 0
 ·rw [if_pos c4] at H
  have c4b0 : (a0 == 0) = true := beq_iff_eq.mpr c4
  have c4b1 : (a0 != 0) = false := bne_eq_false_iff_eq.mpr c4
  clear c4
  by_cases c5 : 0 ≤ a1
  ·rw [if_pos c5] at H
   have c5b0 : decide (0 ≤ a1) = true := decide_eq_true c5
   clear c5
   by_cases c6 : a1 < (l2.length : Int)
   ·rw [if_pos c6] at H
    have c6b0 : decide (a1 < (l2.length : Int)) = true := decide_eq_true c6
    clear c6
    replace H := Option.bind_eq_some_iff.mp H
    obtain ⟨t633, A70, H⟩ := H
    replace H : (some t633) = some r := H
    have A7 := Aside0.mk A70
    clear A70
    obtain rfl := Option.some.inj H
    have p632 : 0 ≤ (a1 : Int) := of_decide_eq_true (by first | (with_reducible assumption) | assumption)
    have q632 : a1 < (l2.length : Int) := of_decide_eq_true (by first | (with_reducible assumption) | assumption)
    obtain ⟨ad632, e632, hx632_0⟩ := Kd.at_bool HR2.out a1 p632 q632
    cases e632
    replace p632 := eq_true p632
    replace q632 := eq_true q632
    go_enter Tryz.func153, Tryz.ntmps153
    go_wp2_with (first | ((with_reducible refine gate_callee (f := 176) rfl ?_); refine goesL_ (some 22) rfl rfl Tryz.func176 (by kernel_rfl) rfl #[.bool (rdOf false l2 a1)] rfl (by (try simp only [List.map_toArray, List.map_cons, List.map_nil]); first | done | rfl | (simp only [List.length_drop, List.length_take]; rfl)) ?_; (with_reducible refine (spec_pzOne.calls (rdOf false l2 a1) t633 _ A7.out).mono ?_); rintro e w' ⟨rfl, ⟨nd, rfl⟩⟩; refine ⟨_, rfl, ?_⟩))
    go_ret
    exact ⟨by first | rfl | (simp [errW_none, errW_some] <;> rfl) | (simp [*, errW_none, errW_some] <;> rfl), by repeat (first | (with_reducible first | exact HB.out | apply below_alloc | apply pw_below_drewN | apply below_drew1) | exact HB.out)⟩
   ·rw [if_neg c6] at H
    exact absurd H (by simp)
  ·rw [if_neg c5] at H
   exact absurd H (by simp)
 ·rw [if_neg c4] at H
  have c4b0 : (a0 == 0) = false := beq_eq_false_iff_ne.mpr c4
  have c4b1 : (a0 != 0) = true := bne_iff_ne.mpr c4
  by_cases c8 : a0 = 1
  ·rw [if_pos c8] at H
   have c8b0 : (a0 == 1) = true := beq_iff_eq.mpr c8
   have c8b1 : (a0 != 1) = false := bne_eq_false_iff_eq.mpr c8
   clear c8
   have H' := Aside0.mk H
   clear H
   go_enter Tryz.func153, Tryz.ntmps153
   go_wp2
   go_loopg [8, 27] k (fun kq v8 v27 w' => ∃ (x8_1 : Int) (x27_1 : Int), v8 = .int .i64 x8_1 ∧ v27 = .int .i64 x27_1 ∧ Aside0 (spec_pzValue.l0 kq x8_1 l2 (l2.length : Int) x27_1 = some r) ∧ Aside0 (kq ≤ k) ∧ Aside0 (Below w.heap.size w w'))
   case atStart => exact ⟨(0), (0), (by first | rfl | (simp; done) | (simp [*]; done)), (by first | rfl | (simp; done) | (simp [*]; done)), H', ⟨Nat.le_refl _⟩, ⟨by repeat (first | (with_reducible first | exact HB.out | apply below_alloc | apply pw_below_drewN | apply below_drew1) | exact HB.out)⟩⟩
   case round =>
    clear H'
    try clear c1
    try clear c2
    try clear p2
    try clear c4
    try clear c4b0
    try clear c4b1
    try clear c5
    try clear c5b0
    try clear c6
    try clear c6b0
    try clear p6
    try clear q6
    try clear hx6
    try clear c8
    try clear c8b0
    try clear c8b1
    try clear hx632_0
    try clear p632
    try clear q632
    obtain ⟨x8_1, x27_1, rfl, rfl, HA, HK1, HB⟩ := hrel
    cases gk with
    | zero => exact absurd HA.out (by simp [spec_pzValue.l0])
    | succ k1 =>
     have H := HA.out
     clear HA
     simp only [spec_pzValue.l0] at H
     by_cases c9 : x27_1 < (l2.length : Int)
     ·rw [if_pos c9] at H
      have c9b0 : decide (x27_1 < (l2.length : Int)) = true := decide_eq_true c9
      clear c9
      by_cases c10 : 0 ≤ x27_1
      ·rw [if_pos c10] at H
       have c10b0 : decide (0 ≤ x27_1) = true := decide_eq_true c10
       clear c10
       by_cases c11 : x27_1 < (l2.length : Int)
       ·rw [if_pos c11] at H
        have c11b0 : decide (x27_1 < (l2.length : Int)) = true := decide_eq_true c11
        clear c11
        replace H := Option.bind_eq_some_iff.mp H
        obtain ⟨t635, A120, H⟩ := H
        replace H : (spec_pzValue.l0 k1 (wrap64 (x8_1 + t635)) l2 (l2.length : Int) (wrap64 (x27_1 + 1))) = some r := H
        have A12 := Aside0.mk A120
        clear A120
        have H' := Aside0.mk H
        clear H
        have p634 : 0 ≤ (x27_1 : Int) := of_decide_eq_true (by first | (with_reducible assumption) | assumption)
        have q634 : x27_1 < (l2.length : Int) := of_decide_eq_true (by first | (with_reducible assumption) | assumption)
        obtain ⟨ad634, e634, hx634_0⟩ := Kd.at_bool HR2.out x27_1 p634 q634
        cases e634
        replace hx634_0 := (HB.out.cell (World.block_lt_of_cell? w _ hx634_0)).trans hx634_0
        replace p634 := eq_true p634
        replace q634 := eq_true q634
        go_wp2_with (first | ((with_reducible refine gate_callee (f := 176) rfl ?_); refine goesL_ (some 33) rfl rfl Tryz.func176 (by kernel_rfl) rfl #[.bool (rdOf false l2 x27_1)] rfl (by (try simp only [List.map_toArray, List.map_cons, List.map_nil]); first | done | rfl | (simp only [List.length_drop, List.length_take]; rfl)) ?_; (with_reducible refine (spec_pzOne.calls (rdOf false l2 x27_1) t635 _ A12.out).mono ?_); rintro e w' ⟨rfl, ⟨nd, rfl⟩⟩; refine ⟨_, rfl, ?_⟩))
        go_roundg k1
        case measure => have := HK1.out; omega
        case rel => exact ⟨(wrap64 (x8_1 + t635)), (wrap64 (x27_1 + 1)), (by first | rfl | (simp; done) | (simp [*]; done)), (by first | rfl | (simp; done) | (simp [*]; done)), H', ⟨by have := HK1.out; omega⟩, ⟨by repeat (first | (with_reducible first | exact HB.out | apply below_alloc | apply pw_below_drewN | apply below_drew1) | exact HB.out)⟩⟩
       ·rw [if_neg c11] at H
        exact absurd H (by simp)
      ·rw [if_neg c10] at H
       exact absurd H (by simp)
     ·rw [if_neg c9] at H
      have c9b0 : decide (x27_1 < (l2.length : Int)) = false := decide_eq_false c9
      clear c9
      obtain rfl := Option.some.inj H
      go_wp2
      go_ret
      exact ⟨by first | rfl | (simp [errW_none, errW_some] <;> rfl) | (simp [*, errW_none, errW_some] <;> rfl), by repeat (first | (with_reducible first | exact HB.out | apply below_alloc | apply pw_below_drewN | apply below_drew1) | exact HB.out)⟩
  ·rw [if_neg c8] at H
   have c8b0 : (a0 == 1) = false := beq_eq_false_iff_ne.mpr c8
   have c8b1 : (a0 != 1) = true := bne_iff_ne.mpr c8
   by_cases c13 : a0 = 2
   ·rw [if_pos c13] at H
    have c13b0 : (a0 == 2) = true := beq_iff_eq.mpr c13
    have c13b1 : (a0 != 2) = false := bne_eq_false_iff_eq.mpr c13
    clear c13
    by_cases c14 : 0 ≤ a1
    ·rw [if_pos c14] at H
     have c14b0 := eq_true c14
     have c14b1 : decide (0 ≤ a1) = true := decide_eq_true c14
     clear c14
     obtain ⟨ji15, hji15⟩ : ∃ j_ : Int, (shl .i64 1 a1) = j_ := ⟨_, rfl⟩
     replace H : (if 0 ≤ (wrap64 ((wrap64 ((l2.length : Int) - 1)) - (ji15))) then (if (wrap64 ((wrap64 ((l2.length : Int) - 1)) - (ji15))) < (l2.length : Int) then ((spec_pzOne.f (!(rdOf false l2 (wrap64 ((wrap64 ((l2.length : Int) - 1)) - (ji15)))))).bind fun t637 => (some t637)) else (none)) else (none)) = some r := by first | (rw [hji15] at H; exact H) | (simp only [hji15] at H ⊢; exact H)
     have hji15_ : (IntKind.i64.wrap (1 * 2 ^ min a1.toNat 64)) = ji15 := hji15
     have hji15z : a1 ≤ 64 → (IntKind.i64.wrap (1 * 2 ^ a1.toNat)) = ji15 := shl_small hji15
     have hji15u : (IntKind.i64.wrap (2 ^ min a1.toNat 64)) = ji15 := by have h_ := hji15_; rw [Int.one_mul] at h_; exact h_
     have hji15v : a1 ≤ 64 → (IntKind.i64.wrap (2 ^ a1.toNat)) = ji15 := fun hle_ => by have h_ := hji15z hle_; rw [Int.one_mul] at h_; exact h_
     have hji15y : (wrap64 (1 * 2 ^ min a1.toNat 64)) = ji15 := (i64_w _).symm.trans hji15_
     have hji15x : a1 ≤ 64 → (wrap64 (1 * 2 ^ a1.toNat)) = ji15 := fun h_ => (i64_w _).symm.trans (hji15z h_)
     obtain ⟨ji16, hji16⟩ : ∃ j_ : Int, (wrap64 ((wrap64 ((l2.length : Int) - 1)) - (ji15))) = j_ := ⟨_, rfl⟩
     replace H : (if 0 ≤ (ji16) then (if (ji16) < (l2.length : Int) then ((spec_pzOne.f (!(rdOf false l2 (ji16)))).bind fun t637 => (some t637)) else (none)) else (none)) = some r := by first | (rw [hji16] at H; exact H) | (simp only [hji16] at H ⊢; exact H)
     have hji16w : (IntKind.i64.wrap ((wrap64 ((l2.length : Int) - 1)) - (ji15))) = ji16 := (i64_w _).trans hji16
     by_cases c17 : 0 ≤ (ji16)
     ·rw [if_pos c17] at H
      have c17b0 : decide (0 ≤ (ji16)) = true := decide_eq_true c17
      clear c17
      by_cases c18 : (ji16) < (l2.length : Int)
      ·rw [if_pos c18] at H
       have c18b0 : decide ((ji16) < (l2.length : Int)) = true := decide_eq_true c18
       clear c18
       replace H := Option.bind_eq_some_iff.mp H
       obtain ⟨t637, A190, H⟩ := H
       replace H : (some t637) = some r := H
       have A19 := Aside0.mk A190
       clear A190
       obtain rfl := Option.some.inj H
       have p636 : 0 ≤ ((ji16) : Int) := of_decide_eq_true (by first | (with_reducible assumption) | assumption)
       have q636 : (ji16) < (l2.length : Int) := of_decide_eq_true (by first | (with_reducible assumption) | assumption)
       obtain ⟨ad636, e636, hx636_0⟩ := Kd.at_bool HR2.out (ji16) p636 q636
       cases e636
       replace p636 := eq_true p636
       replace q636 := eq_true q636
       go_enter Tryz.func153, Tryz.ntmps153
       go_wp2_with (first | ((with_reducible refine gate_callee (f := 176) rfl ?_); refine goesL_ (some 47) rfl rfl Tryz.func176 (by kernel_rfl) rfl #[.bool (!(rdOf false l2 (ji16)))] rfl (by (try simp only [List.map_toArray, List.map_cons, List.map_nil]); first | done | (simp only [hji16]; rfl) | rfl | (simp only [List.length_drop, List.length_take]; rfl)) ?_; (with_reducible refine (spec_pzOne.calls (!(rdOf false l2 (ji16))) t637 _ A19.out).mono ?_); rintro e w' ⟨rfl, ⟨nd, rfl⟩⟩; refine ⟨_, rfl, ?_⟩))
       go_ret
       exact ⟨by first | rfl | (simp [errW_none, errW_some] <;> rfl) | (simp only [← hji15, ← hji16]; first | rfl | (simp [errW_none, errW_some] <;> rfl)) | (simp [*, errW_none, errW_some] <;> rfl), by repeat (first | (with_reducible first | exact HB.out | apply below_alloc | apply pw_below_drewN | apply below_drew1) | exact HB.out)⟩
      ·rw [if_neg c18] at H
       exact absurd H (by simp)
     ·rw [if_neg c17] at H
      exact absurd H (by simp)
    ·rw [if_neg c14] at H
     exact absurd H (by simp)
   ·rw [if_neg c13] at H
    have c13b0 : (a0 == 2) = false := beq_eq_false_iff_ne.mpr c13
    have c13b1 : (a0 != 2) = true := bne_iff_ne.mpr c13
    by_cases c20 : a0 = 3
    ·rw [if_pos c20] at H
     have c20b0 : (a0 == 3) = true := beq_iff_eq.mpr c20
     have c20b1 : (a0 != 3) = false := bne_eq_false_iff_eq.mpr c20
     clear c20
     replace H := Option.bind_eq_some_iff.mp H
     obtain ⟨t638, A210, H⟩ := H
     replace H : (some (t638.length : Int)) = some r := H
     have A21 := Aside0.mk A210
     clear A210
     obtain rfl := Option.some.inj H
     go_enter Tryz.func153, Tryz.ntmps153
     go_wp2_with (first | ((with_reducible refine gate_callee (f := 177) rfl ?_); refine goesL_ (some 52) rfl rfl Tryz.func177 (by kernel_rfl) rfl #[.slice A2 l2.length c2, .int .i64 a1] rfl (by (try simp only [List.map_toArray, List.map_cons, List.map_nil]); first | done | rfl | (simp only [List.length_drop, List.length_take]; rfl)) ?_; (with_reducible refine (spec_pwSwings.calls k _ _ l2 a1 t638 _ ?side1 ?side2 A21.out).mono ?_); (case side1 => repeat (first | exact HR2.out | (with_reducible refine Kd.C_alloc ?_ _) | (with_reducible refine Kd.C_drewN ?_ _) | (with_reducible refine Kd.C_drew ?_))); (case side2 => exact HC2.out); rintro e w22 ⟨v639, rfl, ho0, hb⟩; refine ⟨_, rfl, ?_⟩; have n0_ := Aside0.mk (Kd.R_lower ho0 (below_size (by repeat (first | (with_reducible first | exact HB.out | apply below_alloc | apply pw_below_drewN | apply below_drew1) | exact HB.out)))); have n1_ := Aside0.mk (below_step (by repeat (first | (with_reducible first | exact HB.out | apply below_alloc | apply pw_below_drewN | apply below_drew1) | exact HB.out)) hb); clear HB; have HO640 := n0_; have HB := n1_; clear n0_ n1_; (try clear hb); (try clear hb2); (try clear hk); (try clear hi); (try clear ho0); obtain ⟨Ao23, co23, eo23⟩ := Kd.R_slice HO640.out; subst eo23))
     go_ret
     exact ⟨by first | rfl | (simp [errW_none, errW_some] <;> rfl) | (simp [*, errW_none, errW_some] <;> rfl), by repeat (first | (with_reducible first | exact HB.out | apply below_alloc | apply pw_below_drewN | apply below_drew1) | exact HB.out)⟩
    ·rw [if_neg c20] at H
     have c20b0 : (a0 == 3) = false := beq_eq_false_iff_ne.mpr c20
     have c20b1 : (a0 != 3) = true := bne_iff_ne.mpr c20
     have H' := Aside0.mk H
     clear H
     go_enter Tryz.func153, Tryz.ntmps153
     go_wp2
     go_loopg [56] k (fun kq v56 w' => ∃ (x56_1 : Int), v56 = .int .i64 x56_1 ∧ Aside0 (spec_pzValue.l1 kq a0 l2 (wrap64 ((l2.length : Int) - 1)) (l2.length : Int) x56_1 = some r) ∧ Aside0 (kq ≤ k) ∧ Aside0 (Below w.heap.size w w'))
     case atStart => exact ⟨(0), (by first | rfl | (simp; done) | (simp [*]; done)), H', ⟨Nat.le_refl _⟩, ⟨by repeat (first | (with_reducible first | exact HB.out | apply below_alloc | apply pw_below_drewN | apply below_drew1) | exact HB.out)⟩⟩
     case round =>
      clear H'
      try clear c1
      try clear c2
      try clear p2
      try clear c4
      try clear c4b0
      try clear c4b1
      try clear c5
      try clear c5b0
      try clear c6
      try clear c6b0
      try clear p6
      try clear q6
      try clear hx6
      try clear c8
      try clear c8b0
      try clear c8b1
      try clear c9
      try clear c9b0
      try clear c10
      try clear c10b0
      try clear c11
      try clear c11b0
      try clear c13
      try clear c13b0
      try clear c13b1
      try clear c14
      try clear c14b0
      try clear c14b1
      try clear c15
      try clear c17
      try clear c17b0
      try clear c18
      try clear c18b0
      try clear c20
      try clear c20b0
      try clear c20b1
      try clear hx632_0
      try clear hx634_0
      try clear hx636_0
      try clear p2
      try clear p6
      try clear p632
      try clear p634
      try clear p636
      try clear q6
      try clear q632
      try clear q634
      try clear q636
      obtain ⟨x56_1, rfl, HA, HK1, HB⟩ := hrel
      cases gk with
      | zero => exact absurd HA.out (by simp [spec_pzValue.l1])
      | succ k1 =>
       have H := HA.out
       clear HA
       simp only [spec_pzValue.l1] at H
       by_cases c24 : x56_1 < (l2.length : Int)
       ·rw [if_pos c24] at H
        have c24b0 : decide (x56_1 < (l2.length : Int)) = true := decide_eq_true c24
        clear c24
        by_cases c25 : a0 = 4
        ·rw [if_pos c25] at H
         have c25b0 : (a0 == 4) = true := beq_iff_eq.mpr c25
         have c25b1 : (a0 != 4) = false := bne_eq_false_iff_eq.mpr c25
         clear c25
         by_cases c26 : 0 ≤ x56_1
         ·rw [if_pos c26] at H
          have c26b0 : decide (0 ≤ x56_1) = true := decide_eq_true c26
          clear c26
          by_cases c27 : x56_1 < (l2.length : Int)
          ·rw [if_pos c27] at H
           have c27b0 : decide (x56_1 < (l2.length : Int)) = true := decide_eq_true c27
           clear c27
           obtain ⟨bq28, hbq28⟩ : ∃ b_ : Bool, b_ = (rdOf false l2 x56_1) := ⟨_, rfl⟩
           replace H : (if bq28 = true then (if 0 ≤ (wrap64 ((wrap64 ((l2.length : Int) - 1)) - x56_1)) then (if (wrap64 ((wrap64 ((l2.length : Int) - 1)) - x56_1)) < (l2.length : Int) then (if rdOf false l2 (wrap64 ((wrap64 ((l2.length : Int) - 1)) - x56_1)) = true then (some 0) else (if a0 = 5 then (spec_pzValue.l1 k1 a0 l2 (wrap64 ((l2.length : Int) - 1)) (l2.length : Int) (wrap64 (x56_1 + 1))) else (spec_pzValue.l1 k1 a0 l2 (wrap64 ((l2.length : Int) - 1)) (l2.length : Int) (wrap64 (x56_1 + 1))))) else (none)) else (none)) else (if a0 = 5 then (if 0 ≤ (wrap64 ((wrap64 ((l2.length : Int) - 1)) - x56_1)) then (if (wrap64 ((wrap64 ((l2.length : Int) - 1)) - x56_1)) < (l2.length : Int) then (if (rdOf false l2 (wrap64 ((wrap64 ((l2.length : Int) - 1)) - x56_1)) = true) then (spec_pzValue.l1 k1 a0 l2 (wrap64 ((l2.length : Int) - 1)) (l2.length : Int) (wrap64 (x56_1 + 1))) else (some 0)) else (none)) else (none)) else (spec_pzValue.l1 k1 a0 l2 (wrap64 ((l2.length : Int) - 1)) (l2.length : Int) (wrap64 (x56_1 + 1))))) = some r := by rw [← hbq28] at H; exact H
           have Nbq28 := Aside0.mk hbq28
           clear hbq28
           by_cases c29 : bq28 = true
           ·subst c29
            have H1 : (if 0 ≤ (wrap64 ((wrap64 ((l2.length : Int) - 1)) - x56_1)) then (if (wrap64 ((wrap64 ((l2.length : Int) - 1)) - x56_1)) < (l2.length : Int) then (if rdOf false l2 (wrap64 ((wrap64 ((l2.length : Int) - 1)) - x56_1)) = true then (some 0) else (if a0 = 5 then (spec_pzValue.l1 k1 a0 l2 (wrap64 ((l2.length : Int) - 1)) (l2.length : Int) (wrap64 (x56_1 + 1))) else (spec_pzValue.l1 k1 a0 l2 (wrap64 ((l2.length : Int) - 1)) (l2.length : Int) (wrap64 (x56_1 + 1))))) else (none)) else (none)) = some r := by rw [if_pos rfl] at H; exact H
            clear H
            have H := H1
            clear H1
            obtain ⟨ji30, hji30⟩ : ∃ j_ : Int, (wrap64 ((wrap64 ((l2.length : Int) - 1)) - x56_1)) = j_ := ⟨_, rfl⟩
            replace H : (if 0 ≤ (ji30) then (if (ji30) < (l2.length : Int) then (if rdOf false l2 (ji30) = true then (some 0) else (if a0 = 5 then (spec_pzValue.l1 k1 a0 l2 (wrap64 ((l2.length : Int) - 1)) (l2.length : Int) (wrap64 (x56_1 + 1))) else (spec_pzValue.l1 k1 a0 l2 (wrap64 ((l2.length : Int) - 1)) (l2.length : Int) (wrap64 (x56_1 + 1))))) else (none)) else (none)) = some r := by first | (rw [hji30] at H; exact H) | (simp only [hji30] at H ⊢; exact H)
            have hji30w : (IntKind.i64.wrap ((wrap64 ((l2.length : Int) - 1)) - x56_1)) = ji30 := (i64_w _).trans hji30
            by_cases c31 : 0 ≤ (ji30)
            ·rw [if_pos c31] at H
             have c31b0 : decide (0 ≤ (ji30)) = true := decide_eq_true c31
             clear c31
             by_cases c32 : (ji30) < (l2.length : Int)
             ·rw [if_pos c32] at H
              have c32b0 : decide ((ji30) < (l2.length : Int)) = true := decide_eq_true c32
              clear c32
              obtain ⟨bq33, hbq33⟩ : ∃ b_ : Bool, b_ = (rdOf false l2 (ji30)) := ⟨_, rfl⟩
              replace H : (if bq33 = true then (some 0) else (if a0 = 5 then (spec_pzValue.l1 k1 a0 l2 (wrap64 ((l2.length : Int) - 1)) (l2.length : Int) (wrap64 (x56_1 + 1))) else (spec_pzValue.l1 k1 a0 l2 (wrap64 ((l2.length : Int) - 1)) (l2.length : Int) (wrap64 (x56_1 + 1))))) = some r := by rw [← hbq33] at H; exact H
              have Nbq33 := Aside0.mk hbq33
              clear hbq33
              by_cases c34 : bq33 = true
              ·subst c34
               have H1 : (some 0) = some r := by rw [if_pos rfl] at H; exact H
               clear H
               have H := H1
               clear H1
               obtain rfl := Option.some.inj H
               have p641 : 0 ≤ (x56_1 : Int) := of_decide_eq_true (by first | (with_reducible assumption) | assumption)
               have q641 : x56_1 < (l2.length : Int) := of_decide_eq_true (by first | (with_reducible assumption) | assumption)
               obtain ⟨ad641, e641, hx641_0⟩ := Kd.at_bool HR2.out x56_1 p641 q641
               (try rw [← Nbq28.out] at hx641_0)
               (try rw [← Nbq33.out] at hx641_0)
               cases e641
               replace hx641_0 := (HB.out.cell (World.block_lt_of_cell? w _ hx641_0)).trans hx641_0
               replace p641 := eq_true p641
               replace q641 := eq_true q641
               have p642 : 0 ≤ ((ji30) : Int) := of_decide_eq_true (by first | (with_reducible assumption) | assumption)
               have q642 : (ji30) < (l2.length : Int) := of_decide_eq_true (by first | (with_reducible assumption) | assumption)
               obtain ⟨ad642, e642, hx642_0⟩ := Kd.at_bool HR2.out (ji30) p642 q642
               (try rw [← Nbq28.out] at hx642_0)
               (try rw [← Nbq33.out] at hx642_0)
               obtain rfl : ad641 = ad642 := (by injection e642)
               replace hx642_0 := (HB.out.cell (World.block_lt_of_cell? w _ hx642_0)).trans hx642_0
               replace p642 := eq_true p642
               replace q642 := eq_true q642
               go_wp2
               go_ret
               exact ⟨by first | rfl | (simp [errW_none, errW_some] <;> rfl) | (simp only [← hji30]; first | rfl | (simp [errW_none, errW_some] <;> rfl)) | (simp [*, errW_none, errW_some] <;> rfl), by repeat (first | (with_reducible first | exact HB.out | apply below_alloc | apply pw_below_drewN | apply below_drew1) | exact HB.out)⟩
              ·replace c34 := Bool.eq_false_iff.mpr c34
               subst c34
               have H1 : (if a0 = 5 then (spec_pzValue.l1 k1 a0 l2 (wrap64 ((l2.length : Int) - 1)) (l2.length : Int) (wrap64 (x56_1 + 1))) else (spec_pzValue.l1 k1 a0 l2 (wrap64 ((l2.length : Int) - 1)) (l2.length : Int) (wrap64 (x56_1 + 1)))) = some r := by rw [if_neg (show ¬ (false = true) by decide)] at H; exact H
               clear H
               have H := H1
               clear H1
               by_cases c35 : a0 = 5
               ·rw [if_pos c35] at H
                have c35b0 : (a0 == 5) = true := beq_iff_eq.mpr c35
                have c35b1 : (a0 != 5) = false := bne_eq_false_iff_eq.mpr c35
                clear c35
                have H' := Aside0.mk H
                clear H
                have p641 : 0 ≤ (x56_1 : Int) := of_decide_eq_true (by first | (with_reducible assumption) | assumption)
                have q641 : x56_1 < (l2.length : Int) := of_decide_eq_true (by first | (with_reducible assumption) | assumption)
                obtain ⟨ad641, e641, hx641_0⟩ := Kd.at_bool HR2.out x56_1 p641 q641
                (try rw [← Nbq28.out] at hx641_0)
                (try rw [← Nbq33.out] at hx641_0)
                cases e641
                replace hx641_0 := (HB.out.cell (World.block_lt_of_cell? w _ hx641_0)).trans hx641_0
                replace p641 := eq_true p641
                replace q641 := eq_true q641
                have p642 : 0 ≤ ((ji30) : Int) := of_decide_eq_true (by first | (with_reducible assumption) | assumption)
                have q642 : (ji30) < (l2.length : Int) := of_decide_eq_true (by first | (with_reducible assumption) | assumption)
                obtain ⟨ad642, e642, hx642_0⟩ := Kd.at_bool HR2.out (ji30) p642 q642
                (try rw [← Nbq28.out] at hx642_0)
                (try rw [← Nbq33.out] at hx642_0)
                obtain rfl : ad641 = ad642 := (by injection e642)
                replace hx642_0 := (HB.out.cell (World.block_lt_of_cell? w _ hx642_0)).trans hx642_0
                replace p642 := eq_true p642
                replace q642 := eq_true q642
                have p643 : 0 ≤ (x56_1 : Int) := of_decide_eq_true (by first | (with_reducible assumption) | assumption)
                have q643 : x56_1 < (l2.length : Int) := of_decide_eq_true (by first | (with_reducible assumption) | assumption)
                obtain ⟨ad643, e643, hx643_0⟩ := Kd.at_bool HR2.out x56_1 p643 q643
                (try rw [← Nbq28.out] at hx643_0)
                (try rw [← Nbq33.out] at hx643_0)
                obtain rfl : ad641 = ad643 := (by injection e643)
                replace hx643_0 := (HB.out.cell (World.block_lt_of_cell? w _ hx643_0)).trans hx643_0
                replace p643 := eq_true p643
                replace q643 := eq_true q643
                go_wp2
                go_roundg k1
                case measure => have := HK1.out; omega
                case rel => exact ⟨(wrap64 (x56_1 + 1)), (by first | rfl | (simp; done) | (simp [*]; done)), H', ⟨by have := HK1.out; omega⟩, ⟨by repeat (first | (with_reducible first | exact HB.out | apply below_alloc | apply pw_below_drewN | apply below_drew1) | exact HB.out)⟩⟩
               ·rw [if_neg c35] at H
                have c35b0 : (a0 == 5) = false := beq_eq_false_iff_ne.mpr c35
                have c35b1 : (a0 != 5) = true := bne_iff_ne.mpr c35
                have H' := Aside0.mk H
                clear H
                have p641 : 0 ≤ (x56_1 : Int) := of_decide_eq_true (by first | (with_reducible assumption) | assumption)
                have q641 : x56_1 < (l2.length : Int) := of_decide_eq_true (by first | (with_reducible assumption) | assumption)
                obtain ⟨ad641, e641, hx641_0⟩ := Kd.at_bool HR2.out x56_1 p641 q641
                (try rw [← Nbq28.out] at hx641_0)
                (try rw [← Nbq33.out] at hx641_0)
                cases e641
                replace hx641_0 := (HB.out.cell (World.block_lt_of_cell? w _ hx641_0)).trans hx641_0
                replace p641 := eq_true p641
                replace q641 := eq_true q641
                have p642 : 0 ≤ ((ji30) : Int) := of_decide_eq_true (by first | (with_reducible assumption) | assumption)
                have q642 : (ji30) < (l2.length : Int) := of_decide_eq_true (by first | (with_reducible assumption) | assumption)
                obtain ⟨ad642, e642, hx642_0⟩ := Kd.at_bool HR2.out (ji30) p642 q642
                (try rw [← Nbq28.out] at hx642_0)
                (try rw [← Nbq33.out] at hx642_0)
                obtain rfl : ad641 = ad642 := (by injection e642)
                replace hx642_0 := (HB.out.cell (World.block_lt_of_cell? w _ hx642_0)).trans hx642_0
                replace p642 := eq_true p642
                replace q642 := eq_true q642
                go_wp2
                go_roundg k1
                case measure => have := HK1.out; omega
                case rel => exact ⟨(wrap64 (x56_1 + 1)), (by first | rfl | (simp; done) | (simp [*]; done)), H', ⟨by have := HK1.out; omega⟩, ⟨by repeat (first | (with_reducible first | exact HB.out | apply below_alloc | apply pw_below_drewN | apply below_drew1) | exact HB.out)⟩⟩
             ·rw [if_neg c32] at H
              exact absurd H (by simp)
            ·rw [if_neg c31] at H
             exact absurd H (by simp)
           ·replace c29 := Bool.eq_false_iff.mpr c29
            subst c29
            have H1 : (if a0 = 5 then (if 0 ≤ (wrap64 ((wrap64 ((l2.length : Int) - 1)) - x56_1)) then (if (wrap64 ((wrap64 ((l2.length : Int) - 1)) - x56_1)) < (l2.length : Int) then (if (rdOf false l2 (wrap64 ((wrap64 ((l2.length : Int) - 1)) - x56_1)) = true) then (spec_pzValue.l1 k1 a0 l2 (wrap64 ((l2.length : Int) - 1)) (l2.length : Int) (wrap64 (x56_1 + 1))) else (some 0)) else (none)) else (none)) else (spec_pzValue.l1 k1 a0 l2 (wrap64 ((l2.length : Int) - 1)) (l2.length : Int) (wrap64 (x56_1 + 1)))) = some r := by rw [if_neg (show ¬ (false = true) by decide)] at H; exact H
            clear H
            have H := H1
            clear H1
            by_cases c36 : a0 = 5
            ·rw [if_pos c36] at H
             have c36b0 : (a0 == 5) = true := beq_iff_eq.mpr c36
             have c36b1 : (a0 != 5) = false := bne_eq_false_iff_eq.mpr c36
             clear c36
             obtain ⟨ji37, hji37⟩ : ∃ j_ : Int, (wrap64 ((wrap64 ((l2.length : Int) - 1)) - x56_1)) = j_ := ⟨_, rfl⟩
             replace H : (if 0 ≤ (ji37) then (if (ji37) < (l2.length : Int) then (if (rdOf false l2 (ji37) = true) then (spec_pzValue.l1 k1 a0 l2 (wrap64 ((l2.length : Int) - 1)) (l2.length : Int) (wrap64 (x56_1 + 1))) else (some 0)) else (none)) else (none)) = some r := by first | (rw [hji37] at H; exact H) | (simp only [hji37] at H ⊢; exact H)
             have hji37w : (IntKind.i64.wrap ((wrap64 ((l2.length : Int) - 1)) - x56_1)) = ji37 := (i64_w _).trans hji37
             by_cases c38 : 0 ≤ (ji37)
             ·rw [if_pos c38] at H
              have c38b0 : decide (0 ≤ (ji37)) = true := decide_eq_true c38
              clear c38
              by_cases c39 : (ji37) < (l2.length : Int)
              ·rw [if_pos c39] at H
               have c39b0 : decide ((ji37) < (l2.length : Int)) = true := decide_eq_true c39
               clear c39
               obtain ⟨bq40, hbq40⟩ : ∃ b_ : Bool, b_ = (rdOf false l2 (ji37)) := ⟨_, rfl⟩
               replace H : (if (bq40 = true) then (spec_pzValue.l1 k1 a0 l2 (wrap64 ((l2.length : Int) - 1)) (l2.length : Int) (wrap64 (x56_1 + 1))) else (some 0)) = some r := by rw [← hbq40] at H; exact H
               have Nbq40 := Aside0.mk hbq40
               clear hbq40
               by_cases c41 : (bq40 = true)
               ·subst c41
                have H1 : (spec_pzValue.l1 k1 a0 l2 (wrap64 ((l2.length : Int) - 1)) (l2.length : Int) (wrap64 (x56_1 + 1))) = some r := by rw [if_pos rfl] at H; exact H
                clear H
                have H := H1
                clear H1
                have H' := Aside0.mk H
                clear H
                have p641 : 0 ≤ (x56_1 : Int) := of_decide_eq_true (by first | (with_reducible assumption) | assumption)
                have q641 : x56_1 < (l2.length : Int) := of_decide_eq_true (by first | (with_reducible assumption) | assumption)
                obtain ⟨ad641, e641, hx641_0⟩ := Kd.at_bool HR2.out x56_1 p641 q641
                (try rw [← Nbq28.out] at hx641_0)
                (try rw [← Nbq40.out] at hx641_0)
                cases e641
                replace hx641_0 := (HB.out.cell (World.block_lt_of_cell? w _ hx641_0)).trans hx641_0
                replace p641 := eq_true p641
                replace q641 := eq_true q641
                have p644 : 0 ≤ (x56_1 : Int) := of_decide_eq_true (by first | (with_reducible assumption) | assumption)
                have q644 : x56_1 < (l2.length : Int) := of_decide_eq_true (by first | (with_reducible assumption) | assumption)
                obtain ⟨ad644, e644, hx644_0⟩ := Kd.at_bool HR2.out x56_1 p644 q644
                (try rw [← Nbq28.out] at hx644_0)
                (try rw [← Nbq40.out] at hx644_0)
                obtain rfl : ad641 = ad644 := (by injection e644)
                replace hx644_0 := (HB.out.cell (World.block_lt_of_cell? w _ hx644_0)).trans hx644_0
                replace p644 := eq_true p644
                replace q644 := eq_true q644
                have p645 : 0 ≤ ((ji37) : Int) := of_decide_eq_true (by first | (with_reducible assumption) | assumption)
                have q645 : (ji37) < (l2.length : Int) := of_decide_eq_true (by first | (with_reducible assumption) | assumption)
                obtain ⟨ad645, e645, hx645_0⟩ := Kd.at_bool HR2.out (ji37) p645 q645
                (try rw [← Nbq28.out] at hx645_0)
                (try rw [← Nbq40.out] at hx645_0)
                obtain rfl : ad641 = ad645 := (by injection e645)
                replace hx645_0 := (HB.out.cell (World.block_lt_of_cell? w _ hx645_0)).trans hx645_0
                replace p645 := eq_true p645
                replace q645 := eq_true q645
                go_wp2
                go_roundg k1
                case measure => have := HK1.out; omega
                case rel => exact ⟨(wrap64 (x56_1 + 1)), (by first | rfl | (simp; done) | (simp [*]; done)), H', ⟨by have := HK1.out; omega⟩, ⟨by repeat (first | (with_reducible first | exact HB.out | apply below_alloc | apply pw_below_drewN | apply below_drew1) | exact HB.out)⟩⟩
               ·replace c41 := Bool.eq_false_iff.mpr c41
                subst c41
                have H1 : (some 0) = some r := by rw [if_neg (show ¬ (false = true) by decide)] at H; exact H
                clear H
                have H := H1
                clear H1
                obtain rfl := Option.some.inj H
                have p641 : 0 ≤ (x56_1 : Int) := of_decide_eq_true (by first | (with_reducible assumption) | assumption)
                have q641 : x56_1 < (l2.length : Int) := of_decide_eq_true (by first | (with_reducible assumption) | assumption)
                obtain ⟨ad641, e641, hx641_0⟩ := Kd.at_bool HR2.out x56_1 p641 q641
                (try rw [← Nbq28.out] at hx641_0)
                (try rw [← Nbq40.out] at hx641_0)
                cases e641
                replace hx641_0 := (HB.out.cell (World.block_lt_of_cell? w _ hx641_0)).trans hx641_0
                replace p641 := eq_true p641
                replace q641 := eq_true q641
                have p644 : 0 ≤ (x56_1 : Int) := of_decide_eq_true (by first | (with_reducible assumption) | assumption)
                have q644 : x56_1 < (l2.length : Int) := of_decide_eq_true (by first | (with_reducible assumption) | assumption)
                obtain ⟨ad644, e644, hx644_0⟩ := Kd.at_bool HR2.out x56_1 p644 q644
                (try rw [← Nbq28.out] at hx644_0)
                (try rw [← Nbq40.out] at hx644_0)
                obtain rfl : ad641 = ad644 := (by injection e644)
                replace hx644_0 := (HB.out.cell (World.block_lt_of_cell? w _ hx644_0)).trans hx644_0
                replace p644 := eq_true p644
                replace q644 := eq_true q644
                have p645 : 0 ≤ ((ji37) : Int) := of_decide_eq_true (by first | (with_reducible assumption) | assumption)
                have q645 : (ji37) < (l2.length : Int) := of_decide_eq_true (by first | (with_reducible assumption) | assumption)
                obtain ⟨ad645, e645, hx645_0⟩ := Kd.at_bool HR2.out (ji37) p645 q645
                (try rw [← Nbq28.out] at hx645_0)
                (try rw [← Nbq40.out] at hx645_0)
                obtain rfl : ad641 = ad645 := (by injection e645)
                replace hx645_0 := (HB.out.cell (World.block_lt_of_cell? w _ hx645_0)).trans hx645_0
                replace p645 := eq_true p645
                replace q645 := eq_true q645
                go_wp2
                go_ret
                exact ⟨by first | rfl | (simp [errW_none, errW_some] <;> rfl) | (simp only [← hji37]; first | rfl | (simp [errW_none, errW_some] <;> rfl)) | (simp [*, errW_none, errW_some] <;> rfl), by repeat (first | (with_reducible first | exact HB.out | apply below_alloc | apply pw_below_drewN | apply below_drew1) | exact HB.out)⟩
              ·rw [if_neg c39] at H
               exact absurd H (by simp)
             ·rw [if_neg c38] at H
              exact absurd H (by simp)
            ·rw [if_neg c36] at H
             have c36b0 : (a0 == 5) = false := beq_eq_false_iff_ne.mpr c36
             have c36b1 : (a0 != 5) = true := bne_iff_ne.mpr c36
             have H' := Aside0.mk H
             clear H
             have p641 : 0 ≤ (x56_1 : Int) := of_decide_eq_true (by first | (with_reducible assumption) | assumption)
             have q641 : x56_1 < (l2.length : Int) := of_decide_eq_true (by first | (with_reducible assumption) | assumption)
             obtain ⟨ad641, e641, hx641_0⟩ := Kd.at_bool HR2.out x56_1 p641 q641
             (try rw [← Nbq28.out] at hx641_0)
             cases e641
             replace hx641_0 := (HB.out.cell (World.block_lt_of_cell? w _ hx641_0)).trans hx641_0
             replace p641 := eq_true p641
             replace q641 := eq_true q641
             go_wp2
             go_roundg k1
             case measure => have := HK1.out; omega
             case rel => exact ⟨(wrap64 (x56_1 + 1)), (by first | rfl | (simp; done) | (simp [*]; done)), H', ⟨by have := HK1.out; omega⟩, ⟨by repeat (first | (with_reducible first | exact HB.out | apply below_alloc | apply pw_below_drewN | apply below_drew1) | exact HB.out)⟩⟩
          ·rw [if_neg c27] at H
           exact absurd H (by simp)
         ·rw [if_neg c26] at H
          exact absurd H (by simp)
        ·rw [if_neg c25] at H
         have c25b0 : (a0 == 4) = false := beq_eq_false_iff_ne.mpr c25
         have c25b1 : (a0 != 4) = true := bne_iff_ne.mpr c25
         by_cases c42 : a0 = 5
         ·rw [if_pos c42] at H
          have c42b0 : (a0 == 5) = true := beq_iff_eq.mpr c42
          have c42b1 : (a0 != 5) = false := bne_eq_false_iff_eq.mpr c42
          clear c42
          by_cases c43 : 0 ≤ x56_1
          ·rw [if_pos c43] at H
           have c43b0 : decide (0 ≤ x56_1) = true := decide_eq_true c43
           clear c43
           by_cases c44 : x56_1 < (l2.length : Int)
           ·rw [if_pos c44] at H
            have c44b0 : decide (x56_1 < (l2.length : Int)) = true := decide_eq_true c44
            clear c44
            obtain ⟨bq45, hbq45⟩ : ∃ b_ : Bool, b_ = (rdOf false l2 x56_1) := ⟨_, rfl⟩
            replace H : (if bq45 = true then (spec_pzValue.l1 k1 a0 l2 (wrap64 ((l2.length : Int) - 1)) (l2.length : Int) (wrap64 (x56_1 + 1))) else (if 0 ≤ (wrap64 ((wrap64 ((l2.length : Int) - 1)) - x56_1)) then (if (wrap64 ((wrap64 ((l2.length : Int) - 1)) - x56_1)) < (l2.length : Int) then (if (rdOf false l2 (wrap64 ((wrap64 ((l2.length : Int) - 1)) - x56_1)) = true) then (spec_pzValue.l1 k1 a0 l2 (wrap64 ((l2.length : Int) - 1)) (l2.length : Int) (wrap64 (x56_1 + 1))) else (some 0)) else (none)) else (none))) = some r := by rw [← hbq45] at H; exact H
            have Nbq45 := Aside0.mk hbq45
            clear hbq45
            by_cases c46 : bq45 = true
            ·subst c46
             have H1 : (spec_pzValue.l1 k1 a0 l2 (wrap64 ((l2.length : Int) - 1)) (l2.length : Int) (wrap64 (x56_1 + 1))) = some r := by rw [if_pos rfl] at H; exact H
             clear H
             have H := H1
             clear H1
             have H' := Aside0.mk H
             clear H
             have p646 : 0 ≤ (x56_1 : Int) := of_decide_eq_true (by first | (with_reducible assumption) | assumption)
             have q646 : x56_1 < (l2.length : Int) := of_decide_eq_true (by first | (with_reducible assumption) | assumption)
             obtain ⟨ad646, e646, hx646_0⟩ := Kd.at_bool HR2.out x56_1 p646 q646
             (try rw [← Nbq45.out] at hx646_0)
             cases e646
             replace hx646_0 := (HB.out.cell (World.block_lt_of_cell? w _ hx646_0)).trans hx646_0
             replace p646 := eq_true p646
             replace q646 := eq_true q646
             go_wp2
             go_roundg k1
             case measure => have := HK1.out; omega
             case rel => exact ⟨(wrap64 (x56_1 + 1)), (by first | rfl | (simp; done) | (simp [*]; done)), H', ⟨by have := HK1.out; omega⟩, ⟨by repeat (first | (with_reducible first | exact HB.out | apply below_alloc | apply pw_below_drewN | apply below_drew1) | exact HB.out)⟩⟩
            ·replace c46 := Bool.eq_false_iff.mpr c46
             subst c46
             have H1 : (if 0 ≤ (wrap64 ((wrap64 ((l2.length : Int) - 1)) - x56_1)) then (if (wrap64 ((wrap64 ((l2.length : Int) - 1)) - x56_1)) < (l2.length : Int) then (if (rdOf false l2 (wrap64 ((wrap64 ((l2.length : Int) - 1)) - x56_1)) = true) then (spec_pzValue.l1 k1 a0 l2 (wrap64 ((l2.length : Int) - 1)) (l2.length : Int) (wrap64 (x56_1 + 1))) else (some 0)) else (none)) else (none)) = some r := by rw [if_neg (show ¬ (false = true) by decide)] at H; exact H
             clear H
             have H := H1
             clear H1
             obtain ⟨ji47, hji47⟩ : ∃ j_ : Int, (wrap64 ((wrap64 ((l2.length : Int) - 1)) - x56_1)) = j_ := ⟨_, rfl⟩
             replace H : (if 0 ≤ (ji47) then (if (ji47) < (l2.length : Int) then (if (rdOf false l2 (ji47) = true) then (spec_pzValue.l1 k1 a0 l2 (wrap64 ((l2.length : Int) - 1)) (l2.length : Int) (wrap64 (x56_1 + 1))) else (some 0)) else (none)) else (none)) = some r := by first | (rw [hji47] at H; exact H) | (simp only [hji47] at H ⊢; exact H)
             have hji47w : (IntKind.i64.wrap ((wrap64 ((l2.length : Int) - 1)) - x56_1)) = ji47 := (i64_w _).trans hji47
             by_cases c48 : 0 ≤ (ji47)
             ·rw [if_pos c48] at H
              have c48b0 : decide (0 ≤ (ji47)) = true := decide_eq_true c48
              clear c48
              by_cases c49 : (ji47) < (l2.length : Int)
              ·rw [if_pos c49] at H
               have c49b0 : decide ((ji47) < (l2.length : Int)) = true := decide_eq_true c49
               clear c49
               obtain ⟨bq50, hbq50⟩ : ∃ b_ : Bool, b_ = (rdOf false l2 (ji47)) := ⟨_, rfl⟩
               replace H : (if (bq50 = true) then (spec_pzValue.l1 k1 a0 l2 (wrap64 ((l2.length : Int) - 1)) (l2.length : Int) (wrap64 (x56_1 + 1))) else (some 0)) = some r := by rw [← hbq50] at H; exact H
               have Nbq50 := Aside0.mk hbq50
               clear hbq50
               by_cases c51 : (bq50 = true)
               ·subst c51
                have H1 : (spec_pzValue.l1 k1 a0 l2 (wrap64 ((l2.length : Int) - 1)) (l2.length : Int) (wrap64 (x56_1 + 1))) = some r := by rw [if_pos rfl] at H; exact H
                clear H
                have H := H1
                clear H1
                have H' := Aside0.mk H
                clear H
                have p646 : 0 ≤ (x56_1 : Int) := of_decide_eq_true (by first | (with_reducible assumption) | assumption)
                have q646 : x56_1 < (l2.length : Int) := of_decide_eq_true (by first | (with_reducible assumption) | assumption)
                obtain ⟨ad646, e646, hx646_0⟩ := Kd.at_bool HR2.out x56_1 p646 q646
                (try rw [← Nbq45.out] at hx646_0)
                (try rw [← Nbq50.out] at hx646_0)
                cases e646
                replace hx646_0 := (HB.out.cell (World.block_lt_of_cell? w _ hx646_0)).trans hx646_0
                replace p646 := eq_true p646
                replace q646 := eq_true q646
                have p647 : 0 ≤ ((ji47) : Int) := of_decide_eq_true (by first | (with_reducible assumption) | assumption)
                have q647 : (ji47) < (l2.length : Int) := of_decide_eq_true (by first | (with_reducible assumption) | assumption)
                obtain ⟨ad647, e647, hx647_0⟩ := Kd.at_bool HR2.out (ji47) p647 q647
                (try rw [← Nbq45.out] at hx647_0)
                (try rw [← Nbq50.out] at hx647_0)
                obtain rfl : ad646 = ad647 := (by injection e647)
                replace hx647_0 := (HB.out.cell (World.block_lt_of_cell? w _ hx647_0)).trans hx647_0
                replace p647 := eq_true p647
                replace q647 := eq_true q647
                go_wp2
                go_roundg k1
                case measure => have := HK1.out; omega
                case rel => exact ⟨(wrap64 (x56_1 + 1)), (by first | rfl | (simp; done) | (simp [*]; done)), H', ⟨by have := HK1.out; omega⟩, ⟨by repeat (first | (with_reducible first | exact HB.out | apply below_alloc | apply pw_below_drewN | apply below_drew1) | exact HB.out)⟩⟩
               ·replace c51 := Bool.eq_false_iff.mpr c51
                subst c51
                have H1 : (some 0) = some r := by rw [if_neg (show ¬ (false = true) by decide)] at H; exact H
                clear H
                have H := H1
                clear H1
                obtain rfl := Option.some.inj H
                have p646 : 0 ≤ (x56_1 : Int) := of_decide_eq_true (by first | (with_reducible assumption) | assumption)
                have q646 : x56_1 < (l2.length : Int) := of_decide_eq_true (by first | (with_reducible assumption) | assumption)
                obtain ⟨ad646, e646, hx646_0⟩ := Kd.at_bool HR2.out x56_1 p646 q646
                (try rw [← Nbq45.out] at hx646_0)
                (try rw [← Nbq50.out] at hx646_0)
                cases e646
                replace hx646_0 := (HB.out.cell (World.block_lt_of_cell? w _ hx646_0)).trans hx646_0
                replace p646 := eq_true p646
                replace q646 := eq_true q646
                have p647 : 0 ≤ ((ji47) : Int) := of_decide_eq_true (by first | (with_reducible assumption) | assumption)
                have q647 : (ji47) < (l2.length : Int) := of_decide_eq_true (by first | (with_reducible assumption) | assumption)
                obtain ⟨ad647, e647, hx647_0⟩ := Kd.at_bool HR2.out (ji47) p647 q647
                (try rw [← Nbq45.out] at hx647_0)
                (try rw [← Nbq50.out] at hx647_0)
                obtain rfl : ad646 = ad647 := (by injection e647)
                replace hx647_0 := (HB.out.cell (World.block_lt_of_cell? w _ hx647_0)).trans hx647_0
                replace p647 := eq_true p647
                replace q647 := eq_true q647
                go_wp2
                go_ret
                exact ⟨by first | rfl | (simp [errW_none, errW_some] <;> rfl) | (simp only [← hji47]; first | rfl | (simp [errW_none, errW_some] <;> rfl)) | (simp [*, errW_none, errW_some] <;> rfl), by repeat (first | (with_reducible first | exact HB.out | apply below_alloc | apply pw_below_drewN | apply below_drew1) | exact HB.out)⟩
              ·rw [if_neg c49] at H
               exact absurd H (by simp)
             ·rw [if_neg c48] at H
              exact absurd H (by simp)
           ·rw [if_neg c44] at H
            exact absurd H (by simp)
          ·rw [if_neg c43] at H
           exact absurd H (by simp)
         ·rw [if_neg c42] at H
          have c42b0 : (a0 == 5) = false := beq_eq_false_iff_ne.mpr c42
          have c42b1 : (a0 != 5) = true := bne_iff_ne.mpr c42
          have H' := Aside0.mk H
          clear H
          go_wp2
          go_roundg k1
          case measure => have := HK1.out; omega
          case rel => exact ⟨(wrap64 (x56_1 + 1)), (by first | rfl | (simp; done) | (simp [*]; done)), H', ⟨by have := HK1.out; omega⟩, ⟨by repeat (first | (with_reducible first | exact HB.out | apply below_alloc | apply pw_below_drewN | apply below_drew1) | exact HB.out)⟩⟩
       ·rw [if_neg c24] at H
        have c24b0 : decide (x56_1 < (l2.length : Int)) = false := decide_eq_false c24
        clear c24
        obtain rfl := Option.some.inj H
        go_wp2
        go_ret
        exact ⟨by first | rfl | (simp [errW_none, errW_some] <;> rfl) | (simp [*, errW_none, errW_some] <;> rfl), by repeat (first | (with_reducible first | exact HB.out | apply below_alloc | apply pw_below_drewN | apply below_drew1) | exact HB.out)⟩
end Go.Proofs.YtnncjnjfdhbddaaGreat.Z
namespace Go.Proofs.YtnncjnjfdhbddaaGreat.Z
open Go.RowKit Go.Proofs.YtnncjnjfdhbddaaGreatW.PrintWords Go.Proofs.YtnncjnjfdhbddaaGreatW.PrintLast Go.Proofs.YtnncjnjfdhbddaaGreatW.PrintMore
attribute [local go_sem] max2_int min2_int max_two min_two max_three min_three max_four min_four
set_option linter.unusedVariables false
set_option linter.unusedSimpArgs false
def spec_pzFits.j0 : Nat → List Bool → Bool → Int → Int → Int → Option (Bool)
 | 0, _, _, _, _, _ => none
 | k + 1, x1, x12, x649000, x649001, x649002 => if x12 = true then ((spec_pzValue.f k x649000 0 x1).bind fun t649 => (some (t649 == x649001))) else ((spec_pzValue.f k x649000 x649001 x1).bind fun t650 => (some (t650 == x649002)))
def spec_pzFits.f (k : Nat) (a0_0 : Int) (a0_1 : Int) (a0_2 : Int) (l1 : List Bool) : Option (Bool) := if a0_0 = 1 then (spec_pzFits.j0 k l1 true a0_0 a0_1 a0_2) else (spec_pzFits.j0 k l1 (decide (a0_0 > 3)) a0_0 a0_1 a0_2)
def spec_pzFits.T2 : Bool × List (List Nat × List Nat) := (true, [([], []), ([0], [0]), ([], []), ([1, 2], [1, 2]), ([], []), ([4], [4]), ([3, 5], [3, 5]), ([6, 3, 0, 1, 2, 3, 4, 5, 6], [6])])
def spec_pzFits.B2 : List Nat := [0, 1, 0, 7, 0, 16, 63, 127]
theorem spec_pzFits.tab2 : rtab .any (opsOf Tryz.f127 2) = spec_pzFits.T2 := by kernel_rfl
theorem spec_pzFits.bits2 : waitsOk spec_pzFits.T2.2 spec_pzFits.B2 = true := by kernel_rfl
def spec_pzFits.T3 : Bool × List (List Nat × List Nat) := (true, [([], []), ([0], [0]), ([], []), ([2], [2]), ([], []), ([1, 3, 4], [1, 3, 4]), ([], []), ([6], [6]), ([5, 7], [5, 7]), ([8, 5, 0, 1, 2, 3, 4, 5, 6, 7, 8], [8])])
def spec_pzFits.B3 : List Nat := [0, 1, 0, 4, 0, 31, 0, 64, 255, 511]
theorem spec_pzFits.tab3 : rtab .any (opsOf Tryz.f127 3) = spec_pzFits.T3 := by kernel_rfl
theorem spec_pzFits.bits3 : waitsOk spec_pzFits.T3.2 spec_pzFits.B3 = true := by kernel_rfl
set_option maxHeartbeats 8000000 in
set_option maxRecDepth 100000 in
theorem spec_pzFits.calls (k : Nat) (a0_0 : Int) (a0_1 : Int) (a0_2 : Int) (A1 : Option Addr) (c1 : Nat) (l1 : List Bool) (r : Bool) (w : World) (hr1 : Kd.C Kd.bool w A1 l1.length l1) (hc1 : l1.length ≤ c1) (h : spec_pzFits.f k a0_0 a0_1 a0_2 l1 = some r) :
  Calls Tryz.prog 127 #[.agg #[.int .i64 a0_0, .int .i64 a0_1, .int .i64 a0_2], .slice A1 l1.length c1] w fun e w' => e = .returned (.bool r) ∧ Below w.heap.size w w' := by
 have hu86 := Tryz.underlying86
 have HR1 := Aside0.mk hr1
 have HC1 := Aside0.mk hc1
 clear hr1 hc1
 have HB := Aside0.mk (Below.refl w.heap.size w)
 have H : (if a0_0 = 1 then (spec_pzFits.j0 k l1 true a0_0 a0_1 a0_2) else (spec_pzFits.j0 k l1 (decide (a0_0 > 3)) a0_0 a0_1 a0_2)) = some r := h
 clear h
 have HC3 := Aside0.mk H
 clear H
 go_enter Tryz.func127, Tryz.ntmps127
 go_upto_region 1 with (first | ((with_reducible refine gate_dst (N := 2) rfl ?_); refine box_event ?hg (N := 2) ?hd (cs := #[.int .i64 a0_0, .int .i64 a0_1, .int .i64 a0_2]) (t := 86) ?hr ?_; (case hd => rfl); (case hg => rfl); (case hr => first | (go_simp; done) | (go_simp; rfl)); intro gb648 hg w4 hbox hb; have n0_ := Aside0.mk (below_step (by repeat (first | (with_reducible first | exact HB.out | apply below_alloc | apply pw_below_drewN | apply below_drew1) | exact HB.out)) hb); have n1_ := Aside0.mk (hbox); have n2_ := Aside0.mk ((by rw [hg]; exact (below_size (by repeat (first | (with_reducible first | exact HB.out | apply below_alloc | apply pw_below_drewN | apply below_drew1) | exact HB.out))) : w.heap.size ≤ gb648)); have n3_ := Aside0.mk ((by rw [hg]; exact (below_size (by repeat (first | (with_reducible first | exact HB.out | apply below_alloc | apply pw_below_drewN | apply below_drew1) | exact HB.out))) : w.heap.size ≤ gb648)); clear HB; have HB := n0_; have BK648 := n1_; have GW648 := n2_; have GE648 := n3_; clear n0_ n1_ n2_ n3_; clear hb hbox hg))
 (try simp only [Act.put, List.setIfInBounds_toArray, List.set_cons_zero, List.set_cons_succ])
 go_cut [12] (fun v12 wc => ∃ (kq : Nat) (x12_2 : Bool), v12 = .bool x12_2 ∧ Aside0 (spec_pzFits.j0 kq l1 x12_2 a0_0 a0_1 a0_2 = some r) ∧ Aside0 (kq ≤ k) ∧ Aside0 (wc.heap[gb648]? = some (.cells #[.int .i64 a0_0, .int .i64 a0_1, .int .i64 a0_2] 86 (0, 0))) ∧ Aside0 (Below w.heap.size w wc))
 case first =>
  have H := HC3.out
  clear HC3
  by_cases c5 : a0_0 = 1
  ·rw [if_pos c5] at H
   have c5b0 : (a0_0 == 1) = true := beq_iff_eq.mpr c5
   have c5b1 : (a0_0 != 1) = false := bne_eq_false_iff_eq.mpr c5
   clear c5
   (first | rw [c5b0] | (simp only [i64_w, i32_w]; rw [c5b0]) | skip)
   have H' := Aside0.mk H
   clear H
   have hcz6_0 : w4.cell? ⟨gb648, 0, none⟩ = some (.int .i64 a0_0) := (blk_cell BK648.out 0).trans rfl
   have hcz6_1 : w4.cell? ⟨gb648, 1, none⟩ = some (.int .i64 a0_1) := (blk_cell BK648.out 1).trans rfl
   have hcz6_2 : w4.cell? ⟨gb648, 2, none⟩ = some (.int .i64 a0_2) := (blk_cell BK648.out 2).trans rfl
   have hfz6_0 := blk_frozen BK648.out 0
   have hfz6_1 := blk_frozen BK648.out 1
   have hfz6_2 := blk_frozen BK648.out 2
   go_wp2
   go_meet
   case rel => exact ⟨_, (true), (by first | rfl | (simp; done) | (simp [*]; done)), H', ⟨by first | omega | exact Nat.le_refl _⟩, ⟨by (with_reducible repeat (first | refine blk_drewN ?_ _ | refine blk_drew ?_ | refine blk_alloc ?_ _)); exact BK648.out⟩, ⟨by repeat (first | (with_reducible first | exact HB.out | apply below_alloc | apply pw_below_drewN | apply below_drew1 | refine below_set ?_ GE648.out) | exact HB.out)⟩⟩
  ·rw [if_neg c5] at H
   have c5b0 : (a0_0 == 1) = false := beq_eq_false_iff_ne.mpr c5
   have c5b1 : (a0_0 != 1) = true := bne_iff_ne.mpr c5
   (first | rw [c5b0] | (simp only [i64_w, i32_w]; rw [c5b0]) | skip)
   have H' := Aside0.mk H
   clear H
   have hcz7_0 : w4.cell? ⟨gb648, 0, none⟩ = some (.int .i64 a0_0) := (blk_cell BK648.out 0).trans rfl
   have hcz7_1 : w4.cell? ⟨gb648, 1, none⟩ = some (.int .i64 a0_1) := (blk_cell BK648.out 1).trans rfl
   have hcz7_2 : w4.cell? ⟨gb648, 2, none⟩ = some (.int .i64 a0_2) := (blk_cell BK648.out 2).trans rfl
   have hfz7_0 := blk_frozen BK648.out 0
   have hfz7_1 := blk_frozen BK648.out 1
   have hfz7_2 := blk_frozen BK648.out 2
   go_wp2
   go_meet
   case rel => exact ⟨_, (decide (a0_0 > 3)), (by first | rfl | (simp; done) | (simp [*]; done)), H', ⟨by first | omega | exact Nat.le_refl _⟩, ⟨by (with_reducible repeat (first | refine blk_drewN ?_ _ | refine blk_drew ?_ | refine blk_alloc ?_ _)); exact BK648.out⟩, ⟨by repeat (first | (with_reducible first | exact HB.out | apply below_alloc | apply pw_below_drewN | apply below_drew1 | refine below_set ?_ GE648.out) | exact HB.out)⟩⟩
 case rest =>
  clear HC3
  try clear c1
  try clear p2
  try clear c5
  try clear c5b0
  try clear c5b1
  try clear hcz6_0
  try clear hcz6_1
  try clear hcz6_2
  try clear hcz7_0
  try clear hcz7_1
  try clear hcz7_2
  try clear hfz6_0
  try clear hfz6_1
  try clear hfz6_2
  try clear hfz7_0
  try clear hfz7_1
  try clear hfz7_2
  obtain ⟨kq, x12_2, rfl, HA, HJ2, BK648, HB⟩ := hcut
  cases kq with
  | zero => exact absurd HA.out (by simp [spec_pzFits.j0])
  | succ kj2 =>
   have H := HA.out
   clear HA
   simp only [spec_pzFits.j0] at H
   by_cases c8 : x12_2 = true
   ·subst c8
    have H1 : ((spec_pzValue.f kj2 a0_0 0 l1).bind fun t649 => (some (t649 == a0_1))) = some r := by rw [if_pos rfl] at H; exact H
    clear H
    have H := H1
    clear H1
    replace H := Option.bind_eq_some_iff.mp H
    obtain ⟨t649, A90, H⟩ := H
    replace H : (some (t649 == a0_1)) = some r := H
    have A9 := Aside0.mk A90
    clear A90
    obtain rfl := Option.some.inj H
    try go_wp2
    have n0_ := Aside0.mk (blk_drew BK648.out)
    have n1_ := Aside0.mk (below_drew1 HB.out)
    clear BK648
    clear HB
    have BK648 := n0_
    have HB := n1_
    clear n0_ n1_
    refine start_ (n := 8) (S := fun w' => w'.cell? ⟨gb648, 0, none⟩ = some (.int .i64 a0_0) ∧ w'.cell? ⟨gb648, 1, none⟩ = some (.int .i64 a0_1) ∧ w'.cell? ⟨gb648, 2, none⟩ = some (.int .i64 a0_2)) (ds := []) #[false, false, false, false, false, false, false, false] (by kernel_rfl) rfl rfl ⟨(blk_cell BK648.out 0).trans rfl, (blk_cell BK648.out 1).trans rfl, (blk_cell BK648.out 2).trans rfl⟩ (fun hHeld => ?_); refine with_tabW spec_pzFits.tab2 spec_pzFits.bits2 (fun HT_ HW_ => ?_)
    generalize wc.drew = w10 at BK648 HB hHeld ⊢
    refine pure_ (i := 0) (N := some 13) (v := ?_) (a' := ?_) #[true, false, false, false, false, false, false, false] rfl rfl (any_of HT_.out (by kernel_rfl)) (fun _ _ _ h => h) (Or.inl ⟨by rfl, ?_⟩) ?_ ?_
    rotate_left
    ·intro w'
     go_simp
     with_reducible rfl
    rotate_left
    ·simp only [Act.put, List.setIfInBounds_toArray, List.set_cons_zero, List.set_cons_succ, i64_w, i32_w]
     rfl
    refine pure_ (i := 2) (N := some 15) (v := ?_) (a' := ?_) #[true, false, true, false, false, false, false, false] rfl rfl (any_of HT_.out (by kernel_rfl)) (fun _ _ _ h => h) (Or.inl ⟨by rfl, ?_⟩) ?_ ?_
    rotate_left
    ·intro w'
     go_simp
     with_reducible rfl
    rotate_left
    ·simp only [Act.put, List.setIfInBounds_toArray, List.set_cons_zero, List.set_cons_succ, i64_w, i32_w]
     rfl
    refine pure_ (i := 4) (N := some 17) (v := ?_) (a' := ?_) #[true, false, true, false, true, false, false, false] rfl rfl (any_of HT_.out (by kernel_rfl)) (fun _ _ _ h => h) (Or.inl ⟨by rfl, ?_⟩) ?_ ?_
    rotate_left
    ·intro w'
     go_simp
     with_reducible rfl
    rotate_left
    ·simp only [Act.put, List.setIfInBounds_toArray, List.set_cons_zero, List.set_cons_succ, i64_w, i32_w]
     rfl
    refine take_ (i := 1) (N := some 14) (v := ?_) (a' := ?_) #[true, true, true, false, true, false, false, false] rfl rfl (take_ofW HT_.out HW_.out (by kernel_rfl)) (fun _ _ _ h => h) (Or.inl ⟨by rfl, ?_⟩) hHeld ?_ ?_
    rotate_left
    ·rintro w' ⟨s0, s1, s2⟩
     go_simp
     with_reducible rfl
    rotate_left
    ·simp only [Act.put, List.setIfInBounds_toArray, List.set_cons_zero, List.set_cons_succ, i64_w, i32_w]
     rfl
    refine take_ (i := 5) (N := some 18) (v := ?_) (a' := ?_) #[true, true, true, false, true, true, false, false] rfl rfl (take_ofW HT_.out HW_.out (by kernel_rfl)) (fun _ _ _ h => h) (Or.inl ⟨by rfl, ?_⟩) hHeld ?_ ?_
    rotate_left
    ·rintro w' ⟨s0, s1, s2⟩
     go_simp
     with_reducible rfl
    rotate_left
    ·simp only [Act.put, List.setIfInBounds_toArray, List.set_cons_zero, List.set_cons_succ, i64_w, i32_w]
     rfl
    refine one_ (i := 3) (N := some 16) #[true, true, true, true, true, true, false, false] rfl rfl (one_of HT_.out (by kernel_rfl)) (by decide) (fun K hK => ?_)
    refine goes_ Tryz.func153 (by kernel_rfl) rfl #[.int .i64 a0_0, .int .i64 0, .slice A1 l1.length c1] (by rfl) rfl rfl (by (try simp only [List.map_toArray, List.map_cons, List.map_nil]); first | done | rfl | (simp only [List.length_drop, List.length_take]; rfl)) ?_
    with_reducible refine (spec_pzValue.calls kj2 a0_0 0 _ _ l1 t649 _ ?side1 ?side2 A9.out).mono ?_
    (case side1 => repeat (first | exact (Kd.C_below HR1.out HB.out) | (with_reducible refine Kd.C_alloc ?_ _) | (with_reducible refine Kd.C_drewN ?_ _) | (with_reducible refine Kd.C_drew ?_)))
    (case side2 => exact HC1.out)
    rintro e w11 ⟨rfl, hb⟩
    refine ⟨_, rfl, ?_⟩
    have n0_ := Aside0.mk (blk_below (g := gb648) (o := .cells #[.int .i64 a0_0, .int .i64 a0_1, .int .i64 a0_2] 86 (0, 0)) (by (with_reducible repeat (first | refine blk_drewN ?_ _ | refine blk_drew ?_ | refine blk_alloc ?_ _)); exact BK648.out) hb)
    have n1_ := Aside0.mk (below_step (by repeat (first | (with_reducible first | exact HB.out | apply below_alloc | apply pw_below_drewN | apply below_drew1 | refine below_set ?_ GE648.out) | exact HB.out)) hb)
    clear BK648
    clear HB
    have BK648 := n0_
    have HB := n1_
    clear n0_ n1_
    (try clear hb)
    (try clear hb2)
    (try clear hk)
    (try clear hi)
    refine hK.out _ _ ⟨(blk_cell BK648.out 0).trans rfl, (blk_cell BK648.out 1).trans rfl, (blk_cell BK648.out 2).trans rfl⟩ (fun hHeld => ?_)
    clear hK K
    refine norm_ (a' := ?_) ?_ ?_
    rotate_left
    ·show Act.put _ (some 16) _ = _
     simp only [Act.put, List.setIfInBounds_toArray, List.set_cons_zero, List.set_cons_succ, i64_w, i32_w]
     rfl
    refine pure_ (i := 6) (N := some 19) (v := ?_) (a' := ?_) #[true, true, true, true, true, true, true, false] rfl rfl (any_of HT_.out (by kernel_rfl)) (fun _ _ _ h => h) (Or.inl ⟨by rfl, ?_⟩) ?_ ?_
    rotate_left
    ·intro w'
     go_simp
     with_reducible rfl
    rotate_left
    ·simp only [Act.put, List.setIfInBounds_toArray, List.set_cons_zero, List.set_cons_succ, i64_w, i32_w]
     rfl
    refine pure_ (i := 7) (N := some 4) (v := ?_) (a' := ?_) #[true, true, true, true, true, true, true, true] rfl rfl (any_of HT_.out (by kernel_rfl)) (fun _ _ _ h => h) (Or.inl ⟨by rfl, ?_⟩) ?_ ?_
    rotate_left
    ·intro w'
     go_simp
     with_reducible rfl
    rotate_left
    ·simp only [Act.put, List.setIfInBounds_toArray, List.set_cons_zero, List.set_cons_succ, i64_w, i32_w]
     rfl
    refine done_ (done_of HT_.out (by kernel_rfl)) ?_
    try go_wp2
    go_ret
    exact ⟨by first | rfl | (simp [errW_none, errW_some] <;> rfl) | (simp [*, errW_none, errW_some] <;> rfl), by repeat (first | (with_reducible first | exact HB.out | apply below_alloc | apply pw_below_drewN | apply below_drew1 | refine below_set ?_ GE648.out) | exact HB.out)⟩
   ·replace c8 := Bool.eq_false_iff.mpr c8
    subst c8
    have H1 : ((spec_pzValue.f kj2 a0_0 a0_1 l1).bind fun t650 => (some (t650 == a0_2))) = some r := by rw [if_neg (show ¬ (false = true) by decide)] at H; exact H
    clear H
    have H := H1
    clear H1
    replace H := Option.bind_eq_some_iff.mp H
    obtain ⟨t650, A120, H⟩ := H
    replace H : (some (t650 == a0_2)) = some r := H
    have A12 := Aside0.mk A120
    clear A120
    obtain rfl := Option.some.inj H
    try go_wp2
    have n0_ := Aside0.mk (blk_drew BK648.out)
    have n1_ := Aside0.mk (below_drew1 HB.out)
    clear BK648
    clear HB
    have BK648 := n0_
    have HB := n1_
    clear n0_ n1_
    refine start_ (n := 10) (S := fun w' => w'.cell? ⟨gb648, 0, none⟩ = some (.int .i64 a0_0) ∧ w'.cell? ⟨gb648, 1, none⟩ = some (.int .i64 a0_1) ∧ w'.cell? ⟨gb648, 2, none⟩ = some (.int .i64 a0_2)) (ds := []) #[false, false, false, false, false, false, false, false, false, false] (by kernel_rfl) rfl rfl ⟨(blk_cell BK648.out 0).trans rfl, (blk_cell BK648.out 1).trans rfl, (blk_cell BK648.out 2).trans rfl⟩ (fun hHeld => ?_); refine with_tabW spec_pzFits.tab3 spec_pzFits.bits3 (fun HT_ HW_ => ?_)
    generalize wc.drew = w13 at BK648 HB hHeld ⊢
    refine pure_ (i := 0) (N := some 20) (v := ?_) (a' := ?_) #[true, false, false, false, false, false, false, false, false, false] rfl rfl (any_of HT_.out (by kernel_rfl)) (fun _ _ _ h => h) (Or.inl ⟨by rfl, ?_⟩) ?_ ?_
    rotate_left
    ·intro w'
     go_simp
     with_reducible rfl
    rotate_left
    ·simp only [Act.put, List.setIfInBounds_toArray, List.set_cons_zero, List.set_cons_succ, i64_w, i32_w]
     rfl
    refine pure_ (i := 2) (N := some 22) (v := ?_) (a' := ?_) #[true, false, true, false, false, false, false, false, false, false] rfl rfl (any_of HT_.out (by kernel_rfl)) (fun _ _ _ h => h) (Or.inl ⟨by rfl, ?_⟩) ?_ ?_
    rotate_left
    ·intro w'
     go_simp
     with_reducible rfl
    rotate_left
    ·simp only [Act.put, List.setIfInBounds_toArray, List.set_cons_zero, List.set_cons_succ, i64_w, i32_w]
     rfl
    refine pure_ (i := 4) (N := some 24) (v := ?_) (a' := ?_) #[true, false, true, false, true, false, false, false, false, false] rfl rfl (any_of HT_.out (by kernel_rfl)) (fun _ _ _ h => h) (Or.inl ⟨by rfl, ?_⟩) ?_ ?_
    rotate_left
    ·intro w'
     go_simp
     with_reducible rfl
    rotate_left
    ·simp only [Act.put, List.setIfInBounds_toArray, List.set_cons_zero, List.set_cons_succ, i64_w, i32_w]
     rfl
    refine pure_ (i := 6) (N := some 26) (v := ?_) (a' := ?_) #[true, false, true, false, true, false, true, false, false, false] rfl rfl (any_of HT_.out (by kernel_rfl)) (fun _ _ _ h => h) (Or.inl ⟨by rfl, ?_⟩) ?_ ?_
    rotate_left
    ·intro w'
     go_simp
     with_reducible rfl
    rotate_left
    ·simp only [Act.put, List.setIfInBounds_toArray, List.set_cons_zero, List.set_cons_succ, i64_w, i32_w]
     rfl
    refine take_ (i := 1) (N := some 21) (v := ?_) (a' := ?_) #[true, true, true, false, true, false, true, false, false, false] rfl rfl (take_ofW HT_.out HW_.out (by kernel_rfl)) (fun _ _ _ h => h) (Or.inl ⟨by rfl, ?_⟩) hHeld ?_ ?_
    rotate_left
    ·rintro w' ⟨s0, s1, s2⟩
     go_simp
     with_reducible rfl
    rotate_left
    ·simp only [Act.put, List.setIfInBounds_toArray, List.set_cons_zero, List.set_cons_succ, i64_w, i32_w]
     rfl
    refine take_ (i := 3) (N := some 23) (v := ?_) (a' := ?_) #[true, true, true, true, true, false, true, false, false, false] rfl rfl (take_ofW HT_.out HW_.out (by kernel_rfl)) (fun _ _ _ h => h) (Or.inl ⟨by rfl, ?_⟩) hHeld ?_ ?_
    rotate_left
    ·rintro w' ⟨s0, s1, s2⟩
     go_simp
     with_reducible rfl
    rotate_left
    ·simp only [Act.put, List.setIfInBounds_toArray, List.set_cons_zero, List.set_cons_succ, i64_w, i32_w]
     rfl
    refine take_ (i := 7) (N := some 27) (v := ?_) (a' := ?_) #[true, true, true, true, true, false, true, true, false, false] rfl rfl (take_ofW HT_.out HW_.out (by kernel_rfl)) (fun _ _ _ h => h) (Or.inl ⟨by rfl, ?_⟩) hHeld ?_ ?_
    rotate_left
    ·rintro w' ⟨s0, s1, s2⟩
     go_simp
     with_reducible rfl
    rotate_left
    ·simp only [Act.put, List.setIfInBounds_toArray, List.set_cons_zero, List.set_cons_succ, i64_w, i32_w]
     rfl
    refine one_ (i := 5) (N := some 25) #[true, true, true, true, true, true, true, true, false, false] rfl rfl (one_of HT_.out (by kernel_rfl)) (by decide) (fun K hK => ?_)
    refine goes_ Tryz.func153 (by kernel_rfl) rfl #[.int .i64 a0_0, .int .i64 a0_1, .slice A1 l1.length c1] (by rfl) rfl rfl (by (try simp only [List.map_toArray, List.map_cons, List.map_nil]); first | done | rfl | (simp only [List.length_drop, List.length_take]; rfl)) ?_
    with_reducible refine (spec_pzValue.calls kj2 a0_0 a0_1 _ _ l1 t650 _ ?side1 ?side2 A12.out).mono ?_
    (case side1 => repeat (first | exact (Kd.C_below HR1.out HB.out) | (with_reducible refine Kd.C_alloc ?_ _) | (with_reducible refine Kd.C_drewN ?_ _) | (with_reducible refine Kd.C_drew ?_)))
    (case side2 => exact HC1.out)
    rintro e w14 ⟨rfl, hb⟩
    refine ⟨_, rfl, ?_⟩
    have n0_ := Aside0.mk (blk_below (g := gb648) (o := .cells #[.int .i64 a0_0, .int .i64 a0_1, .int .i64 a0_2] 86 (0, 0)) (by (with_reducible repeat (first | refine blk_drewN ?_ _ | refine blk_drew ?_ | refine blk_alloc ?_ _)); exact BK648.out) hb)
    have n1_ := Aside0.mk (below_step (by repeat (first | (with_reducible first | exact HB.out | apply below_alloc | apply pw_below_drewN | apply below_drew1 | refine below_set ?_ GE648.out) | exact HB.out)) hb)
    clear BK648
    clear HB
    have BK648 := n0_
    have HB := n1_
    clear n0_ n1_
    (try clear hb)
    (try clear hb2)
    (try clear hk)
    (try clear hi)
    refine hK.out _ _ ⟨(blk_cell BK648.out 0).trans rfl, (blk_cell BK648.out 1).trans rfl, (blk_cell BK648.out 2).trans rfl⟩ (fun hHeld => ?_)
    clear hK K
    refine norm_ (a' := ?_) ?_ ?_
    rotate_left
    ·show Act.put _ (some 25) _ = _
     simp only [Act.put, List.setIfInBounds_toArray, List.set_cons_zero, List.set_cons_succ, i64_w, i32_w]
     rfl
    refine pure_ (i := 8) (N := some 28) (v := ?_) (a' := ?_) #[true, true, true, true, true, true, true, true, true, false] rfl rfl (any_of HT_.out (by kernel_rfl)) (fun _ _ _ h => h) (Or.inl ⟨by rfl, ?_⟩) ?_ ?_
    rotate_left
    ·intro w'
     go_simp
     with_reducible rfl
    rotate_left
    ·simp only [Act.put, List.setIfInBounds_toArray, List.set_cons_zero, List.set_cons_succ, i64_w, i32_w]
     rfl
    refine pure_ (i := 9) (N := some 4) (v := ?_) (a' := ?_) #[true, true, true, true, true, true, true, true, true, true] rfl rfl (any_of HT_.out (by kernel_rfl)) (fun _ _ _ h => h) (Or.inl ⟨by rfl, ?_⟩) ?_ ?_
    rotate_left
    ·intro w'
     go_simp
     with_reducible rfl
    rotate_left
    ·simp only [Act.put, List.setIfInBounds_toArray, List.set_cons_zero, List.set_cons_succ, i64_w, i32_w]
     rfl
    refine done_ (done_of HT_.out (by kernel_rfl)) ?_
    try go_wp2
    go_ret
    exact ⟨by first | rfl | (simp [errW_none, errW_some] <;> rfl) | (simp [*, errW_none, errW_some] <;> rfl), by repeat (first | (with_reducible first | exact HB.out | apply below_alloc | apply pw_below_drewN | apply below_drew1 | refine below_set ?_ GE648.out) | exact HB.out)⟩
end Go.Proofs.YtnncjnjfdhbddaaGreat.Z
namespace Go.Proofs.YtnncjnjfdhbddaaGreat.Z
open Go.RowKit Go.Proofs.YtnncjnjfdhbddaaGreatW.PrintWords Go.Proofs.YtnncjnjfdhbddaaGreatW.PrintLast Go.Proofs.YtnncjnjfdhbddaaGreatW.PrintMore
attribute [local go_sem] max2_int min2_int max_two min_two max_three min_three max_four min_four
set_option linter.unusedVariables false
set_option linter.unusedSimpArgs false
def fitsW (n : Nat) (wins : List Bool) (c : S86) : Bool := !(neC (toldV n wins c) c)
theorem pzOne_f (b : Bool) : spec_pzOne.f b = some (oneB b) := by cases b <;> rfl
theorem shr_nat (m i : Nat) (hi : i < 62) : shr .i64 (m : Int) (i : Int) = ((m >>> i : Nat) : Int) := by
 unfold shr
 rw [show min (i : Int).toNat IntKind.i64.bits = i by simp [IntKind.bits]; omega]
 exact shiftI m i
theorem pzCount_l (wins : List Bool) (hl : wins.length ≤ 512) : ∀ (d j c : Nat), j + d = wins.length → c ≤ j → spec_pzValue.l0 (d + 1) (c : Int) wins (wins.length : Int) (j : Int) = some (((c + (wins.drop j).countP id : Nat)) : Int)
 | 0, j, c, h, hc => by
  rw [spec_pzValue.l0, if_neg (by omega), List.drop_eq_nil_of_le (by omega)]
  simp
 | d + 1, j, c, h, hc => by
  have hj : j < wins.length := by omega
  have e : wins.drop j = wins.getD j false :: wins.drop (j + 1) := by rw [List.drop_eq_getElem_cons hj]; simp [List.getD_eq_getElem?_getD, hj]
  have hrd : rdOf false wins (j : Int) = wins.getD j false := by simp [rdOf]
  rw [spec_pzValue.l0, if_pos (by omega), if_pos (by omega), if_pos (by omega), hrd, pzOne_f, Option.bind_some, wrap64_nat1 j (by omega), e]
  cases hb : wins.getD j false with
  | true =>
   rw [show (c : Int) + oneB true = (c : Int) + 1 from rfl, wrap64_nat1 c (by omega), pzCount_l wins hl d (j + 1) (c + 1) (by omega) (by omega)]; simp; omega
  | false =>
   rw [show (c : Int) + oneB false = (c : Int) from Int.add_zero _, wrap64_nat c (by omega), pzCount_l wins hl d (j + 1) c (by omega) (by omega)]; simp
theorem pzSwing_l (n : Nat) (hn : n ≤ 4) (wins : List Bool) (hw : wins.length = 2 ^ n) (k : Nat) (hk : k < n) : ∀ (d j : Nat) (l : List Int), j + d = wins.length → l.length ≤ j →
  ∃ out, spec_pwSwings.l0 (d + 1) wins (k : Int) l wins (wins.length : Int) (j : Int) = some out ∧ out.length = l.length + ((List.range wins.length).drop j).countP (swB wins k)
 | 0, j, l, h, hl => by
  refine ⟨l, ?_, ?_⟩
  ·rw [spec_pwSwings.l0, if_neg (by omega)]
  ·rw [List.drop_eq_nil_of_le (by simp; omega)]; simp
 | d + 1, j, l, h, hl => by
  have hj : j < wins.length := by omega
  have h16 : 2 ^ n ≤ 16 := Nat.le_trans (Nat.pow_le_pow_right (by decide) hn) (by decide)
  have hrd : ∀ m : Nat, rdOf false wins (m : Int) = wins.getD m false := fun m => by simp [rdOf]
  have hsb := shift_bit j k
  have htm : Int.tmod (((j >>> k : Nat)) : Int) 2 = (((j >>> k) % 2 : Nat) : Int) := by
   rw [Int.tmod_eq_emod_of_nonneg (Int.natCast_nonneg _)]; omega
  have step := fun (l' : List Int) (hl' : l'.length ≤ j + 1) => pzSwing_l n hn wins hw k hk d (j + 1) l' (by omega) hl'
  rw [spec_pwSwings.l0, if_pos (by omega), if_pos (by omega), if_pos (by omega), if_pos (by omega), shr_nat j k (by omega), htm, hsb, wrap64_nat1 j (by omega), range_count_step _ _ _ hj]
  cases hb : j.testBit k with
  | true =>
   obtain ⟨out, h1, h2⟩ := step l (by omega)
   refine ⟨out, ?_, ?_⟩
   ·rw [if_neg (by simp)]; exact h1
   ·rw [h2]; simp [swB, hb]
  | false =>
   rw [if_pos (by simp), hrd]
   cases hwj : wins.getD j false with
   | true =>
    obtain ⟨out, h1, h2⟩ := step l (by omega)
    refine ⟨out, ?_, ?_⟩
    ·rw [if_pos rfl]; exact h1
    ·rw [h2]; simp only [swB, hb, hwj]; simp
   | false =>
    have h1 := fit4 n hn k hk j (by omega) hb
    have hp : 2 ^ k < 2 ^ n := Nat.pow_lt_pow_right (by decide) hk
    have e : wrap64 ((j : Int) + shl .i64 1 (k : Int)) = ((j + 2 ^ k : Nat) : Int) := by
     rw [shl_nat (by omega)]
     have := wrap64_nat (j + 2 ^ k) (by omega)
     rw [← this]; congr 1
    rw [if_neg (by simp), e]
    generalize hz : j + 2 ^ k = z at h1 ⊢
    rw [if_pos (by omega), if_pos (by omega), hrd]
    cases hwz : wins.getD z false with
    | false =>
     obtain ⟨out, h1, h2⟩ := step l (by omega)
     refine ⟨out, ?_, ?_⟩
     ·rw [if_neg (by simp)]; exact h1
     ·rw [h2]; simp only [swB, hb, hwj, hz, hwz]; simp
    | true =>
     obtain ⟨out, h1, h2⟩ := step (l ++ [(j : Int)]) (by simp; omega)
     refine ⟨out, ?_, ?_⟩
     ·rw [if_pos rfl, if_pos (by omega)]; exact h1
     ·rw [h2]; simp only [swB, hb, hwj, hz, hwz]; simp; omega
theorem pzPair_l (n : Nat) (hn : n ≤ 4) (wins : List Bool) (hw : wins.length = 2 ^ n) (b : Bool) (kd : Int) (hkd : kd = if b then 4 else 5) : ∀ (d j : Nat), j + d = wins.length → spec_pzValue.l1 (d + 1) kd wins ((wins.length - 1 : Nat) : Int) (wins.length : Int) (j : Int) = some (oneB (((List.range wins.length).drop j).all fun m => !(bothB b n wins m)))
 | 0, j, h => by
  rw [spec_pzValue.l1, if_neg (by omega), List.drop_eq_nil_of_le (by simp; omega)]
  rfl
 | d + 1, j, h => by
  have hj : j < wins.length := by omega
  have h16 : 2 ^ n ≤ 16 := Nat.le_trans (Nat.pow_le_pow_right (by decide) hn) (by decide)
  have hrd : ∀ m : Nat, rdOf false wins (m : Int) = wins.getD m false := fun m => by simp [rdOf]
  have ih := pzPair_l n hn wins hw b kd hkd d (j + 1) (by omega)
  have e : wrap64 (((wins.length - 1 : Nat) : Int) - (j : Int)) = ((2 ^ n - 1 - j : Nat) : Int) := by
   have := wrap64_nat (2 ^ n - 1 - j) (by omega)
   rw [← this]; congr 1; omega
  rw [spec_pzValue.l1, if_pos (by omega), e, hrd, hrd, wrap64_nat1 j (by omega), ih, range_all_step _ _ _ hj, bothB]
  cases b with
  | true =>
   obtain rfl : kd = 4 := hkd
   rw [if_pos rfl, if_pos (by omega), if_pos (by omega)]
   cases wins.getD j false with
   | false => simp
   | true =>
    rw [if_pos rfl, if_pos (by omega), if_pos (by omega)]
    cases wins.getD (2 ^ n - 1 - j) false <;> simp [oneB]
  | false =>
   obtain rfl : kd = 5 := hkd
   rw [if_neg (by decide), if_pos rfl, if_pos (by omega), if_pos (by omega)]
   cases wins.getD j false with
   | true => simp
   | false =>
    rw [if_neg (by simp), if_pos (by omega), if_pos (by omega)]
    cases wins.getD (2 ^ n - 1 - j) false <;> simp [oneB]
theorem pzFits_f (n : Nat) (hn : n ≤ 4) (wins : List Bool) (hw : wins.length = 2 ^ n) (x : S86) (hx : clueB (n : Int) x = true) : spec_pzFits.f (wins.length + 2) x.f0 x.f1 x.f2 wins = some (fitsW n wins x) := by
 have h16 : 2 ^ n ≤ 16 := Nat.le_trans (Nat.pow_le_pow_right (by decide) hn) (by decide)
 have hn1 := Nat.two_pow_pos n
 have hrd : ∀ m : Nat, rdOf false wins (m : Int) = wins.getD m false := fun m => by simp [rdOf]
 obtain ⟨k, a, b⟩ := x
 unfold clueB at hx
 unfold fitsW neC toldV
 simp only at hx ⊢
 have hlen : wrap64 ((wins.length : Int) - 1) = ((wins.length - 1 : Nat) : Int) := by
  have := wrap64_nat (wins.length - 1) (by omega)
  rw [← this]; congr 1; omega
 by_cases h0 : k = 0
 ·subst h0
  simp only [if_true, Bool.and_eq_true] at hx ⊢
  have h1 := inI_of hx.1
  obtain ⟨a, rfl⟩ := Int.eq_ofNat_of_zero_le h1.1
  have e : ((2 : Int) ^ n) = ((2 ^ n : Nat) : Int) := by simp
  have ha : a < wins.length := by have := h1.2; rw [Int.toNat_natCast] at this; omega
  rw [spec_pzFits.f, if_neg (by decide), show decide ((0 : Int) > 3) = false from rfl, spec_pzFits.j0, if_neg (by simp), spec_pzValue.f, if_pos rfl, if_pos (by omega), if_pos (by omega), hrd, pzOne_f, Int.toNat_natCast]
  simp
 by_cases h1 : k = 1
 ·subst h1
  simp only [show ¬ (1 : Int) = 0 by decide, if_true, if_false, Bool.and_eq_true] at hx ⊢
  have hb := hx.2
  simp only [beq_iff_eq] at hb
  have hc := pzCount_l wins (by omega) wins.length 0 0 (by omega) (by omega)
  rw [spec_pzFits.f, if_pos rfl, spec_pzFits.j0, if_pos rfl, spec_pzValue.f, if_neg (by decide), if_pos rfl]
  rw [show (0 : Int) = ((0 : Nat) : Int) from rfl, hc]
  simp [countW, hb]
 by_cases h2 : k = 2
 ·subst h2
  simp only [show ¬ (2 : Int) = 0 by decide, show ¬ (2 : Int) = 1 by decide, if_true, if_false, Bool.and_eq_true] at hx ⊢
  have h1 := inI_of hx.1
  obtain ⟨a, rfl⟩ := Int.eq_ofNat_of_zero_le h1.1
  have ha : a < n := by omega
  have hp : 2 ^ a < 2 ^ n := Nat.pow_lt_pow_right (by decide) ha
  have e : wrap64 (((wins.length - 1 : Nat) : Int) - shl .i64 1 (a : Int)) = ((2 ^ n - 1 - 2 ^ a : Nat) : Int) := by
   rw [shl_nat (by omega)]
   generalize 2 ^ a = p at *
   generalize 2 ^ n = q at *
   have := wrap64_nat (q - 1 - p) (by omega)
   rw [← this]; congr 1; omega
  have hz : 2 ^ n - 1 - 2 ^ a < wins.length := by
   generalize 2 ^ a = p at *
   generalize 2 ^ n = q at *
   omega
  rw [spec_pzFits.f, if_neg (by decide), show decide ((2 : Int) > 3) = false from rfl, spec_pzFits.j0, if_neg (by simp), spec_pzValue.f, if_neg (by decide), if_neg (by decide), if_pos rfl, hlen, e, Int.toNat_natCast]
  generalize 2 ^ n - 1 - 2 ^ a = z at hz ⊢
  rw [if_pos (by omega), if_pos (by omega), if_pos (by omega), hrd, pzOne_f]
  simp
 by_cases h3 : k = 3
 ·subst h3
  simp only [show ¬ (3 : Int) = 0 by decide, show ¬ (3 : Int) = 1 by decide, show ¬ (3 : Int) = 2 by decide, if_true, if_false, Bool.and_eq_true] at hx ⊢
  have h1 := inI_of hx.1
  obtain ⟨a, rfl⟩ := Int.eq_ofNat_of_zero_le h1.1
  have ha : a < n := by omega
  obtain ⟨out, ho, hol⟩ := pzSwing_l n hn wins hw a ha wins.length 0 [] (by omega) (by simp)
  have hsw : (swingsL n wins).getD a 0 = ((swCount wins a : Nat) : Int) := by simp [swingsL, List.getD_eq_getElem?_getD, ha]
  have hol2 : out.length = swCount wins a := by rw [hol]; simp [swCount]
  rw [spec_pzFits.f, if_neg (by decide), show decide ((3 : Int) > 3) = false from rfl, spec_pzFits.j0, if_neg (by simp), spec_pzValue.f, if_neg (by decide), if_neg (by decide), if_neg (by decide), if_pos rfl, spec_pwSwings.f]
  rw [show (0 : Int) = ((0 : Nat) : Int) from rfl, ho, Int.toNat_natCast, show (((0 : Nat) : Int)) = 0 from rfl, hsw]
  simp [hol2]
 by_cases h4 : k = 4
 ·subst h4
  simp only [show ¬ (4 : Int) = 0 by decide, show ¬ (4 : Int) = 1 by decide, show ¬ (4 : Int) = 2 by decide, show ¬ (4 : Int) = 3 by decide, true_or, if_true, if_false, Bool.and_eq_true] at hx ⊢
  have hb : b = 0 := by simpa using hx.2
  have hc := pzPair_l n hn wins hw true 4 rfl wins.length 0 (by omega)
  rw [spec_pzFits.f, if_neg (by decide), show decide ((4 : Int) > 3) = true from rfl, spec_pzFits.j0, if_pos rfl, spec_pzValue.f, if_neg (by decide), if_neg (by decide), if_neg (by decide), if_neg (by decide), hlen]
  rw [show (0 : Int) = ((0 : Nat) : Int) from rfl, hc]
  simp [properB, hb]
 by_cases h5 : k = 5
 ·subst h5
  simp only [show ¬ (5 : Int) = 0 by decide, show ¬ (5 : Int) = 1 by decide, show ¬ (5 : Int) = 2 by decide, show ¬ (5 : Int) = 3 by decide, show ¬ (5 : Int) = 4 by decide, or_true, if_true, if_false, Bool.and_eq_true] at hx ⊢
  have hb : b = 0 := by simpa using hx.2
  have hc := pzPair_l n hn wins hw false 5 rfl wins.length 0 (by omega)
  rw [spec_pzFits.f, if_neg (by decide), show decide ((5 : Int) > 3) = true from rfl, spec_pzFits.j0, if_pos rfl, spec_pzValue.f, if_neg (by decide), if_neg (by decide), if_neg (by decide), if_neg (by decide), hlen]
  rw [show (0 : Int) = ((0 : Nat) : Int) from rfl, hc]
  simp [strongB, hb]
 ·exfalso
  simp [h0, h1, h2, h3, h4, h5] at hx
end Go.Proofs.YtnncjnjfdhbddaaGreat.Z
namespace Go.Proofs.YtnncjnjfdhbddaaGreat.Z
open Go.RowKit Go.Proofs.YtnncjnjfdhbddaaGreatW.PrintWords Go.Proofs.YtnncjnjfdhbddaaGreatW.PrintLast Go.Proofs.YtnncjnjfdhbddaaGreatW.PrintMore
attribute [local go_sem] max2_int min2_int max_two min_two max_three min_three max_four min_four
set_option linter.unusedVariables false
set_option linter.unusedSimpArgs false
def OBox (b : Nat) (v : Value) (W : World) : Prop := W.heap[b]? = some (.cells #[v] 53 (0, 0))
structure LSt (B bw bo : Nat) (w0 : World) (l : List Bool) (v : Value) (xs : List S28) (W : World) : Prop where
 row : WRow bw l W
 box : OBox bo v W
 own : Kd.R k28 28 W B (fun _ => True) v xs
 bel : Below B w0 W
section
variable {B bw bo : Nat} {w0 W W1 : World} {l : List Bool} {v : Value} {xs : List S28}
theorem LSt.le (h : LSt B bw bo w0 l v xs W) (hb : B ≤ bw) : B ≤ W.heap.size := Nat.le_of_lt (Nat.lt_of_le_of_lt hb (blk_lt h.row))
theorem LSt.below (h : LSt B bw bo w0 l v xs W) (hB : B ≤ bw) (hb : Below W.heap.size W W1) : LSt B bw bo w0 l v xs W1 :=
 ⟨blk_below h.row hb, blk_below h.box hb, Kd.R_below h.own hb, Below.trans h.bel (hb.mono (h.le hB))⟩
theorem LSt.set (h : LSt B bw bo w0 l v xs W) (hbw : B ≤ bw) (k : Nat) (c : Bool) : LSt B bw bo w0 (l.set k c) v xs (W.setCell ⟨bw, k, none⟩ (.bool c)) :=
 ⟨h.row.set k c, blk_far (p := ⟨bw, k, none⟩) h.box (blk_ne (g' := bw) h.box h.row (by decide)) _, Kd.R_set h.own h.row (by decide) k _, h.bel.setCell hbw _⟩
theorem LSt.app {v1 : Value} {ys : List S28} (h : LSt B bw bo w0 l v xs W) (hB : B ≤ bw) (hbo : B ≤ bo) (hb : Below W.heap.size W W1) {W2 : World} (ho : Kd.R k28 28 W2 B (fun _ => True) v1 ys) (hg : W1.grownBy W2 v.ownBlock) : LSt B bw bo w0 l v1 ys (W2.setCell ⟨bo, 0, none⟩ v1) := by
 have h1 := h.below hB hb
 have hr : WRow bw l W2 := blk_grown h1.row hg (Kd.R_ne h1.own h1.row (by decide))
 have hx : OBox bo v W2 := blk_grown h1.box hg (Kd.R_ne h1.own h1.box (by decide))
 exact ⟨blk_far (p := ⟨bo, 0, none⟩) hr (blk_ne (g' := bo) hr hx (by decide)) _, blk_set hx 0 _, Kd.R_set ho hx (by decide) 0 _, (h1.bel.grown hg (h1.le hB) (Kd.R_base h1.own)).setCell hbo _⟩
end
def gameV (n : Nat) (l : List Bool) : S28 := ⟨(n : Int), leastL l⟩
def leafB (n : Nat) (clues : List S86) (l : List Bool) : Bool := l.getD (2 ^ n - 1) false && (!(l.getD 0 false) && clues.all (fitsW n l))
def leafL (n : Nat) (clues : List S86) (l : List Bool) : List S28 := if leafB n clues l then [gameV n l] else []
set_option maxRecDepth 100000 in
set_option maxHeartbeats 8000000 in
theorem pzLook_leaf (n : Nat) (hn1 : 1 ≤ n) (hn : n ≤ 4) (clues : List S86) (hcl : ∀ c ∈ clues, clueB (n : Int) c = true) (hcn : clues.length ≤ 1000) (B bw bo : Nat) (w0 : World) (hB0 : B = w0.heap.size) (Ac : Option Addr) (cc : Nat) (hC : Kd.C k86 w0 Ac clues.length clues) (hbw : B ≤ bw) (hbo : B ≤ bo)
  (l : List Bool) (hl : l.length = 2 ^ n) (v : Value) (xs : List S28) (hxs : xs.length ≤ 100000) (W : World) (hS : LSt B bw bo w0 l v xs W) :
  Calls Tryz.prog 83 #[.slice (some ⟨bw, 0, none⟩) (2 ^ n) (2 ^ n), .int .i64 ((2 ^ n : Nat) : Int), .int .i64 (n : Int), .slice Ac clues.length cc, .pointer (some ⟨bo, 0, none⟩)] W fun e w' => e = .returned (.tuple #[]) ∧ ∃ v', LSt B bw bo w0 l v' (xs ++ leafL n clues l) w' := by
 have h16 : 2 ≤ 2 ^ n ∧ 2 ^ n ≤ 16 := by
  have : n = 1 ∨ n = 2 ∨ n = 3 ∨ n = 4 := by omega
  rcases this with h | h | h | h <;> subst h <;> decide
 have hpf := fun (y : S86) (hy : y ∈ clues) W' (hB : Below W.heap.size W W') => spec_pzFits.calls (l.length + 2) y.f0 y.f1 y.f2 (some ⟨bw, 0, none⟩) l.length l (fitsW n l y) W' ((hS.below hbw hB).row.C (by omega)) (Nat.le_refl _) (pzFits_f n hn l hl y (hcl y hy))
 have hgm := fun W' (hB : Below W.heap.size W W') => gmOf_any (n : Int) l (by omega) (some ⟨bw, 0, none⟩) l.length W' ((hS.below hbw hB).row.C (by omega)) (Nat.le_refl _)
 have h0 := hS.row.cell 0 (by omega)
 have h1 := hS.row.cell (2 ^ n - 1) (by omega)
 have hC1 := fun W' (hB : Below W.heap.size W W') => Kd.C_below hC (show Below w0.heap.size w0 W' from hB0 ▸ (hS.below hbw hB).bel)
 have hle : leafL n clues l = if l.getD (2 ^ n - 1) false = true then (if l.getD 0 false = true then [] else if clues.all (fitsW n l) = true then [gameV n l] else []) else [] := by
  unfold leafL leafB
  cases l.getD (2 ^ n - 1) false <;> cases l.getD 0 false <;> simp
 rw [hle]
 rw [hl] at hpf hgm
 clear hcl hC hle hB0
 generalize 2 ^ n = N at *
 obtain ⟨M, hM⟩ : ∃ M, M = N - 1 := ⟨_, rfl⟩
 rw [← hM] at h1 ⊢
 generalize l.getD 0 false = q0 at *
 generalize l.getD M false = q1 at *
 have HPF := Aside0.mk hpf
 have HGM := Aside0.mk hgm
 have HC1 := Aside0.mk hC1
 have HS := Aside0.mk hS
 have HXS := Aside0.mk hxs
 clear hpf hgm hC1 hS hl
 have hsub : (N : Int) - 1 = (M : Int) := by omega
 have hMN : (M : Int) < (N : Int) := by omega
 have hM0 : (0 : Int) ≤ (M : Int) := by omega
 have hN0 : (0 : Int) < (N : Int) := by omega
 clear hM
 cases q1 with
 | false =>
  go_enter Tryz.func83, Tryz.ntmps83
  go_wp2
  refine bodyPost_ret (results_none rfl _ _ _) rfl ?_
  exact ⟨rfl, _, by simpa using HS.out⟩
 | true =>
  cases q0 with
  | true =>
   go_enter Tryz.func83, Tryz.ntmps83
   go_wp2
   refine bodyPost_ret (results_none rfl _ _ _) rfl ?_
   exact ⟨rfl, _, by simpa using HS.out⟩
  | false =>
   generalize hys : (if true = true then (if false = true then [] else if clues.all (fitsW n l) = true then [gameV n l] else []) else []) = ys
   have HYS := Aside0.mk hys
   clear hys
   obtain ⟨L, hL⟩ : ∃ L, L = clues.length := ⟨_, rfl⟩
   rw [← hL] at HC1 hcn ⊢
   have HL := Aside0.mk hL
   clear hL
   go_enter Tryz.func83, Tryz.ntmps83
   go_wp2
   go_loopg [11, 32] L (fun gg _ s32 wq => ∃ k : Nat, k ≤ L ∧ L - k ≤ gg ∧ s32 = .int .i64 k ∧ Aside0 (Below W.heap.size W wq) ∧ Aside0 (∀ i, i < k → fitsW n l (clues.getD i z86) = true))
   case atStart => exact ⟨0, Nat.zero_le _, by omega, rfl, ⟨Below.refl _ _⟩, ⟨fun i hi => absurd hi (Nat.not_lt_zero _)⟩⟩
   case round =>
    obtain ⟨k, hk, hg, rfl, BW, HA⟩ := hrel
    by_cases hlt : k < L
    ·have hltz : (k : Int) < (L : Int) := by omega
     have h0z : (0 : Int) ≤ (k : Int) := by omega
     obtain ⟨ad, e, hc0, hc1, hc2⟩ := at_T86 (HC1.out _ BW.out) (k : Int) h0z hltz
     subst e
     rw [Int.toNat_natCast] at hc0 hc1 hc2
     have hy0 : rd_T86 clues (k : Int) = clues.getD k z86 := by simp [rd_T86]
     have hmem : clues.getD k z86 ∈ clues := by have := HL.out; simp [List.getD_eq_getElem?_getD, show k < clues.length by omega]
     rw [hy0] at hc0 hc1 hc2
     have hcall := HPF.out _ hmem
     clear hy0
     generalize hy : clues.getD k z86 = y at *
     have HY := Aside0.mk hy
     have HM := Aside0.mk hmem
     clear hy hmem h0 h1
     cases hq : fitsW n l y with
     | false =>
      have HCL := Aside0.mk (hq ▸ hcall)
      have HQ := Aside0.mk hq
      clear hq hcall
      go_wp2_with (go_at_call 127; refine (HCL.out _ (Below.trans BW.out (((Below.refl _ _).alloc (Nat.le_refl _) _).mono BW.out.size))).mono ?_; rintro e w2 ⟨rfl, hb2⟩; have HB2 := Aside0.mk hb2; clear hb2)
      refine bodyPost_ret (results_none rfl _ _ _) rfl ?_
      have hno : clues.all (fitsW n l) = false := by
       rw [List.all_eq_false]
       exact ⟨y, HM.out, by rw [HQ.out]; simp⟩
      have hys : ys = [] := by rw [← HYS.out, hno]; rfl
      refine ⟨rfl, v, ?_⟩
      rw [hys, List.append_nil]
      exact HS.out.below hbw (Below.trans (Below.trans BW.out (((Below.refl _ _).alloc (Nat.le_refl _) _).mono BW.out.size)) (HB2.out.mono (by have := BW.out.size; simp; omega)))
     | true =>
      have HCL := Aside0.mk (hq ▸ hcall)
      have HQ := Aside0.mk hq
      clear hq hcall
      go_wp2_with (go_at_call 127; refine (HCL.out _ (Below.trans BW.out (((Below.refl _ _).alloc (Nat.le_refl _) _).mono BW.out.size))).mono ?_; rintro e w2 ⟨rfl, hb2⟩; have HB2 := Aside0.mk hb2; clear hb2)
      go_roundg (L - (k + 1))
      case measure => omega
      case rel =>
       refine ⟨k + 1, by omega, by omega, by go_num, ⟨Below.trans (Below.trans BW.out (((Below.refl _ _).alloc (Nat.le_refl _) _).mono BW.out.size)) (HB2.out.mono (by have := BW.out.size; simp; omega))⟩, ⟨fun i hi => ?_⟩⟩
       by_cases hik : i = k
       ·subst hik; rw [HY.out]; exact HQ.out
       ·exact HA.out i (by omega)
    ·have hltz : ¬ (k : Int) < (L : Int) := by omega
     obtain rfl : k = L := by omega
     have hyes : clues.all (fitsW n l) = true := by
      rw [List.all_eq_true]
      intro y hy
      obtain ⟨i, hi, rfl⟩ := List.mem_iff_getElem.1 hy
      have := HA.out i (by have := HL.out; omega)
      simpa [List.getD_eq_getElem?_getD, hi] using this
     have hys : ys = [gameV n l] := by rw [← HYS.out, hyes]; rfl
     have HYS2 := Aside0.mk hys
     have hst := HS.out.below hbw BW.out
     have hbx : wr.heap[bo]? = some (.cells #[v] 53 (0, 0)) := hst.box
     have HBX := Aside0.mk hbx
     have HST := Aside0.mk hst
     have hcb : wr.cell? ⟨bo, 0, none⟩ = some v := (blk_cell hbx 0).trans rfl
     have hfb := blk_frozen hbx 0
     clear hbx hst h0 h1 hyes hys HPF HC1
     go_wp2
     go_region_law (first | (refine Kd.R_append_step k28 (w0 := w0) B (by rfl) (.tmp 44) (.tmp 48) 53 28 (.agg #[.int .i64 0, .slice none 0 0]) 32 rfl Tryz.underlying53 infoG rfl (by decide) (by decide) v xs (gameV n l) [.int .i64 (n : Int), v2] (fun _ => True) (fun k_ => wr.heap.size ≤ k_ ∧ k_ < w2.heap.size) rfl rfl ?aP ?aQ (fun _ _ => trivial) ?aO ?aB ?aS ?aL ?_; (case aP => exact k28_mkM _ _ _ (gameV n l) (Kd.R_mono (Kd.R_lower (Kd.R_bound HO2.out) (HST.out.le hbw)) (fun k hk => ⟨hk.2.1, hk.2.2.1⟩))); (case aQ => exact fun k hk => ⟨trivial, fun e => by have h1 := Kd.R_lt HST.out.own k e.symm; have h2 := hk.1; omega⟩); (case aO => exact Kd.R_below HST.out.own HBX2.out); (case aB => exact Below.trans HST.out.bel (HBX2.out.mono (HST.out.le hbw))); (case aS => exact Nat.le_trans (HST.out.le hbw) HBX2.out.size); (case aL => have h1 := HXS.out; omega); intro v3 w3 ho hb hg hat; obtain ⟨A3, c3, e3⟩ := Kd.R_slice ho; have hb1 : w3.heap[bo]? = some (.cells #[v] 53 (0, 0)) := blk_grown (blk_below HBX.out HBX2.out) hg (Kd.R_ne HST.out.own HBX.out (by decide)); have hb2 : w3.cell? ⟨bo, 0, none⟩ = some v := (blk_cell hb1 0).trans rfl; have hb3 := blk_frozen hb1 0; have HO3 := Aside0.mk ho; have HG3 := Aside0.mk hg; clear ho hb hg hat hb1; subst e3) | (go_simp; go_at_call 128; refine (HGM.out _ ?sB).mono ?_; (case sB => exact (by (with_reducible repeat (first | exact BW.out | apply below_alloc | apply pw_below_drewN | apply below_drew)))); rintro e w2 ⟨v2, rfl, ho2, hb2⟩; have HO2 := Aside0.mk ho2; have HBX2 := Aside0.mk (show Below wr.heap.size wr w2 from Below.trans (by (with_reducible repeat (first | exact Below.refl _ _ | apply below_alloc | apply pw_below_drewN | apply below_drew))) hb2); have hcb2 : w2.cell? ⟨bo, 0, none⟩ = some v := (blk_cell (blk_below HBX.out HBX2.out) 0).trans rfl; have hcb3 : (∀ o, (w2.alloc o).cell? ⟨bo, 0, none⟩ = some v) := (fun o => (blk_cell (blk_alloc (blk_below HBX.out HBX2.out) o) 0).trans rfl); clear ho2 hb2))
     all_goals
      go_wp2
      refine bodyPost_ret (results_none rfl _ _ _) rfl ?_
      have hfin := HST.out.app hbw hbo HBX2.out HO3.out HG3.out
      rw [show (xs ++ [gameV n l]).length = xs.length + 1 by simp, ← HYS2.out] at hfin
      exact ⟨rfl, _, hfin⟩
end Go.Proofs.YtnncjnjfdhbddaaGreat.Z
namespace Go.Proofs.YtnncjnjfdhbddaaGreat.Z
open Go.RowKit Go.Proofs.YtnncjnjfdhbddaaGreatW.PrintWords Go.Proofs.YtnncjnjfdhbddaaGreatW.PrintLast Go.Proofs.YtnncjnjfdhbddaaGreatW.PrintMore
attribute [local go_sem] max2_int min2_int max_two min_two max_three min_three max_four min_four
set_option linter.unusedVariables false
set_option linter.unusedSimpArgs false
def mustB (pre : List Bool) : Bool := (setN pre.length).any fun i => pre.getD (pre.length - 2 ^ i) false
def lookP (n : Nat) (clues : List S86) : Nat → List Bool → List S28
 | 0, pre => leafL n clues pre
 | d + 1, pre => lookP n clues d (pre ++ [true]) ++ (if mustB pre = true then [] else lookP n clues d (pre ++ [false]))
theorem lookP_len (n : Nat) (clues : List S86) : ∀ d pre, (lookP n clues d pre).length ≤ 2 ^ d
 | 0, pre => by
  rw [lookP, leafL]
  split <;> simp
 | d + 1, pre => by
  have h1 := lookP_len n clues d (pre ++ [true])
  have h2 := lookP_len n clues d (pre ++ [false])
  rw [lookP, List.length_append, Nat.pow_succ]
  split
  ·simp; omega
  ·omega
theorem take_set_next (l : List Bool) (b : Nat) (c : Bool) (h : b < l.length) : (l.set b c).take (b + 1) = l.take b ++ [c] := by
 rw [List.take_succ_eq_append_getElem (by simpa using h)]
 simp [List.take_set_of_le]
theorem getD_take (l : List Bool) (b j : Nat) (h : j < b) : (l.take b).getD j false = l.getD j false := by
 simp [List.getD_eq_getElem?_getD, List.getElem?_take, h]
structure LPost (B bw bo : Nat) (w0 : World) (N b : Nat) (pre : List Bool) (ys : List S28) (e : Ending) (w' : World) : Prop where
 ret : e = .returned (.tuple #[])
 st : ∃ v' l', LSt B bw bo w0 l' v' ys w' ∧ l'.length = N ∧ l'.take b = pre
set_option maxRecDepth 100000 in
set_option maxHeartbeats 8000000 in
theorem pzLook_step (n : Nat) (hn1 : 1 ≤ n) (hn : n ≤ 4) (clues : List S86) (L cc : Nat) (Ac : Option Addr) (B bw bo : Nat) (w0 : World) (hbw : B ≤ bw) (N : Nat) (hN : N ≤ 16) (b d : Nat) (hbd : b + (d + 1) = N)
  (ih : ∀ (l : List Bool) (v : Value) (xs : List S28) (W : World), l.length = N → xs.length + 2 ^ d ≤ 100000 → LSt B bw bo w0 l v xs W →
   Calls Tryz.prog 83 #[.slice (some ⟨bw, 0, none⟩) N N, .int .i64 ((b : Int) + 1), .int .i64 (n : Int), .slice Ac L cc, .pointer (some ⟨bo, 0, none⟩)] W (LPost B bw bo w0 N (b + 1) (l.take (b + 1)) (xs ++ lookP n clues d (l.take (b + 1)))))
  (l : List Bool) (hl : l.length = N) (v : Value) (xs : List S28) (hxs : xs.length + 2 ^ (d + 1) ≤ 100000) (W : World) (hS : LSt B bw bo w0 l v xs W) :
  Calls Tryz.prog 83 #[.slice (some ⟨bw, 0, none⟩) N N, .int .i64 (b : Int), .int .i64 (n : Int), .slice Ac L cc, .pointer (some ⟨bo, 0, none⟩)] W (LPost B bw bo w0 N b (l.take b) (xs ++ lookP n clues (d + 1) (l.take b))) := by
 have hbN : b < N := by omega
 have hvl := fun w => spec_voList.calls (b : Int) (setI b) w (by rw [spec_voList.f, if_pos ⟨by omega, by omega⟩, Int.toNat_natCast])
 have hplen : (l.take b).length = b := by rw [List.length_take]; omega
 have hmust : mustB (l.take b) = (setN b).any fun i => (l.take b).getD (b - 2 ^ i) false := by rw [mustB, hplen]
 have ht1 := take_set_next l b true (by omega)
 have hlen1 := lookP_len n clues d (l.take b ++ [true])
 have hlk : lookP n clues (d + 1) (l.take b) = lookP n clues d (l.take b ++ [true]) ++ (if mustB (l.take b) = true then [] else lookP n clues d (l.take b ++ [false])) := rfl
 have HVL := Aside0.mk hvl
 have HIH := Aside0.mk ih
 have HS := Aside0.mk hS
 have HXS := Aside0.mk hxs
 have HL := Aside0.mk hl
 have HP := Aside0.mk (And.intro hplen (And.intro ht1 (And.intro hlen1 hlk)))
 generalize hm : mustB (l.take b) = must at *
 have HMU := Aside0.mk hmust
 clear hvl ih hS hxs hl hplen ht1 hlen1 hlk hm hmust
 have hcb : W.cell? ⟨bw, b, none⟩ = some (.bool (l.getD b false)) := HS.out.row.cell b (by have := HL.out; omega)
 have arms : True := trivial
 have hneq : ((b : Int) == (N : Int)) = false := beq_eq_false_iff_ne.mpr (by omega)
 have hbz : (b : Int) < (N : Int) := by omega
 have hb0 : (0 : Int) ≤ (b : Int) := by omega
 clear hbd
 go_enter Tryz.func83, Tryz.ntmps83
 go_wp2_with (go_at_call 96; refine (HVL.out _).mono ?_; rintro e w2 ⟨v2, rfl, ho, hb2⟩; obtain ⟨A2, c2, rfl, hl2, hC2⟩ := Kd.R_reads ho; have HC2 := Aside0.mk hC2; have HB2 := Aside0.mk hb2; clear ho hb2 hC2 hl2)
 have hml : (setI b).length = (setN b).length := by simp [setI]
 have hmn : ∀ j, j < (setN b).length → rd (setI b) (j : Int) = (((setN b).getD j 0 : Nat) : Int) := fun j hj => by simp [rd, setI, List.getD_eq_getElem?_getD, hj]
 have hmb : ∀ j, j < (setN b).length → (setN b).getD j 0 < 9 ∧ 2 ^ (setN b).getD j 0 ≤ b := fun j hj => by
  have h1 : (setN b).getD j 0 ∈ setN b := by simp [List.getD_eq_getElem?_getD, hj]
  have h2 := (List.mem_filter.1 h1).2
  have h3 := Nat.ge_two_pow_of_testBit h2
  refine ⟨?_, h3⟩
  rcases Nat.lt_or_ge ((setN b).getD j 0) 9 with h | h
  ·exact h
  ·have := Nat.pow_le_pow_right (n := 2) (by decide) h
   omega
 obtain ⟨M, hM⟩ : ∃ M, M = (setI b).length := ⟨_, rfl⟩
 rw [← hM] at HC2 hml ⊢
 have hM62 : M ≤ 62 := by rw [hml, setN]; exact Nat.le_trans (List.length_filter_le _ _) (by simp)
 have HMN := Aside0.mk hmn
 have HMB := Aside0.mk hmb
 have HML := Aside0.mk hml
 have HM := Aside0.mk hM
 clear hmn hmb hml hM hcb
 go_loopg [12, 14, 54] M (fun gg s12 _ s54 wq => ∃ j : Nat, j ≤ M ∧ M - j ≤ gg ∧ s54 = .int .i64 j ∧ s12 = .bool (((setN b).take j).any fun i => (l.take b).getD (b - 2 ^ i) false) ∧ Aside0 (Below W.heap.size W wq) ∧ Aside0 (Kd.C (Kd.int .i64) wq A2 M (setI b)))
 case atStart => exact ⟨0, Nat.zero_le _, by omega, rfl, by simp, HB2, HC2⟩
 case round =>
  clear HC2 HB2
  obtain ⟨j, hj, hg2, rfl, rfl, BW, HC2⟩ := hrel
  by_cases hjl : j < M
  ·have hjz : (j : Int) < (M : Int) := by omega
   have hjz0 : (0 : Int) ≤ (j : Int) := by omega
   obtain ⟨ad2, e, hcell2⟩ := Kd.at_int HC2.out (j : Int) hjz0 (by omega)
   subst e
   have hjm : j < (setN b).length := by have := HML.out; omega
   rw [HMN.out j hjm, Int.toNat_natCast] at hcell2
   have hib := HMB.out j hjm
   have htk : (setN b).take (j + 1) = (setN b).take j ++ [(setN b).getD j 0] := by rw [List.take_succ_eq_append_getElem hjm]; simp [List.getD_eq_getElem?_getD, hjm]
   generalize (setN b).getD j 0 = i at *
   have HTK := Aside0.mk htk
   clear htk hjm
   obtain ⟨p, hp, hw1, hw2, hpk, hp9⟩ := pow_facts i b hib.1 hib.2
   have hp0 : 0 < p := hp ▸ Nat.two_pow_pos i
   have hi0 : (0 : Int) ≤ (i : Int) := Int.natCast_nonneg _
   have HW := Aside0.mk (And.intro hw1 hw2)
   clear hw1 hw2
   obtain ⟨x, hx⟩ : ∃ x, x = b - p := ⟨_, rfl⟩
   have hsub : (b : Int) - (p : Int) = (x : Int) := by omega
   have hxb : x < b := by omega
   have hcell3 : wr.cell? ⟨bw, x, none⟩ = some (.bool (l.getD x false)) := (HS.out.below hbw BW.out).row.cell x (by have := HL.out; omega)
   rw [← getD_take l b x hxb, hx, hp] at hcell3
   generalize hbb : (l.take b).getD (b - 2 ^ i) false = b2 at *
   have HBB := Aside0.mk hbb
   rw [← hp, ← hx] at hcell3
   have hx0 : (0 : Int) ≤ (x : Int) := by omega
   have hxz : (x : Int) < (N : Int) := by omega
   clear hbb hp hx hib
   generalize hacc : ((setN b).take j).any (fun i => (l.take b).getD (b - 2 ^ i) false) = acc at *
   have HACC := Aside0.mk hacc
   clear hacc
   have hw1 := HW.out.1
   have hw2 := HW.out.2
   cases acc with
   | true =>
    go_wp2
    clear hw1 hw2 hsub
    go_roundg (M - (j + 1))
    case measure => omega
    case rel =>
     refine ⟨j + 1, by omega, by omega, by go_num, ?_, BW, HC2⟩
     rw [HTK.out, List.any_append, HACC.out]; rfl
   | false =>
    go_wp2
    clear hw1 hw2 hsub
    go_roundg (M - (j + 1))
    case measure => omega
    case rel =>
     refine ⟨j + 1, by omega, by omega, by go_num, ?_, BW, HC2⟩
     rw [HTK.out, List.any_append, HACC.out]
     simp only [List.any_cons, List.any_nil, HBB.out, Bool.false_or, Bool.or_false]
  ·have hjz : ¬ (j : Int) < (M : Int) := by omega
   obtain rfl : j = M := by omega
   have htk : (setN b).take j = setN b := List.take_of_length_le (by rw [HML.out]; exact Nat.le_refl _)
   rw [htk, ← HMU.out]
   have hst := HS.out.below hbw BW.out
   have hcb : wr.cell? ⟨bw, b, none⟩ = some (.bool (l.getD b false)) := hst.row.cell b (by have := HL.out; omega)
   have hfb := blk_frozen hst.row b
   have hs1 := hst.set hbw b true
   have hl1 : (l.set b true).length = N := by rw [List.length_set]; exact HL.out
   obtain ⟨hplen, ht1, hlen1, hlk⟩ := HP.out
   have hx1 : xs.length + 2 ^ d ≤ 100000 := by have := HXS.out; rw [Nat.pow_succ] at this; omega
   have hc1 := HIH.out (l.set b true) v xs _ hl1 hx1 hs1
   rw [ht1] at hc1
   have HC1 := Aside0.mk hc1
   have HLK := Aside0.mk hlk
   have HLEN := Aside0.mk hlen1
   have HPL := Aside0.mk hplen
   have HT1 := Aside0.mk ht1
   clear hst hs1 hl1 hc1 hlk hlen1 hplen ht1 htk hx1 HC2
   have tok1 : True := trivial
   cases must with
   | true =>
    go_wp2_with (go_at_call 83; refine HC1.out.mono ?_; rintro e w5 ⟨rfl, v5, l5, hs5, hl5, ht5⟩; have HS5 := Aside0.mk hs5; have HL5 := Aside0.mk (And.intro hl5 ht5); clear hs5 hl5 ht5)
    go_end0
    have hs5 := HS5.out
    refine ⟨rfl, v5, l5, ?_, HL5.out.1, ?_⟩
    ·rw [HLK.out]; simp only [if_true, List.append_nil]; exact hs5
    ·have h1 := HL5.out.2
     have h2 := congrArg (List.take b) h1
     rw [List.take_take, Nat.min_eq_left (Nat.le_succ b), List.take_append_of_le_length (Nat.le_of_eq HPL.out.symm), List.take_take, Nat.min_self] at h2
     exact h2
   | false =>
    go_wp2_with (go_at_call 83; clear tok1; refine HC1.out.mono ?_; rintro e w5 ⟨rfl, v5, l5, hs5, hl5, ht5⟩; have hcb5 : w5.cell? ⟨bw, b, none⟩ = some (.bool (l5.getD b false)) := hs5.row.cell b (by omega); have hfb5 := blk_frozen hs5.row b; have HS5 := Aside0.mk hs5; have HL5 := Aside0.mk (And.intro hl5 ht5); clear hs5 hl5 ht5)
    have hl5 : l5.length = N := HL5.out.1
    have hl6 : (l5.set b false).length = N := by rw [List.length_set]; exact hl5
    have ht6 : (l5.set b false).take (b + 1) = l.take b ++ [false] := by
     rw [take_set_next l5 b false (by omega)]
     congr 1
     have h2 := congrArg (List.take b) HL5.out.2
     rw [List.take_take, Nat.min_eq_left (Nat.le_succ b), List.take_append_of_le_length (Nat.le_of_eq HPL.out.symm), List.take_take, Nat.min_self] at h2
     exact h2
    have hx6 : (xs ++ lookP n clues d (l.take b ++ [true])).length + 2 ^ d ≤ 100000 := by
     have h1 := HXS.out; have h2 := HLEN.out; rw [Nat.pow_succ] at h1; rw [List.length_append]; omega
    have hc6 := HIH.out (l5.set b false) v5 _ _ hl6 hx6 (HS5.out.set hbw b false)
    rw [ht6] at hc6
    have HC6 := Aside0.mk hc6
    have HT6 := Aside0.mk ht6
    clear hl5 hl6 ht6 hx6 hc6 HC1
    go_wp2_with (go_at_call 83; refine HC6.out.mono ?_; rintro e w7 ⟨rfl, v7, l7, hs7, hl7, ht7⟩; have HS7 := Aside0.mk hs7; have HL7 := Aside0.mk (And.intro hl7 ht7); clear hs7 hl7 ht7)
    go_end0
    have hs7 := HS7.out
    refine ⟨rfl, v7, l7, ?_, HL7.out.1, ?_⟩
    ·rw [HLK.out]; simp only [if_false, Bool.false_eq_true]; rw [← List.append_assoc]; exact hs7
    ·have h1 := HL7.out.2
     have h2 := congrArg (List.take b) h1
     rw [List.take_take, Nat.min_eq_left (Nat.le_succ b), List.take_append_of_le_length (Nat.le_of_eq HPL.out.symm), List.take_take, Nat.min_self] at h2
     exact h2
theorem pzLook_any (n : Nat) (hn1 : 1 ≤ n) (hn : n ≤ 4) (clues : List S86) (hcl : ∀ c ∈ clues, clueB (n : Int) c = true) (hcn : clues.length ≤ 1000) (B bw bo : Nat) (w0 : World) (hB0 : B = w0.heap.size) (Ac : Option Addr) (cc : Nat) (hC : Kd.C k86 w0 Ac clues.length clues) (hbw : B ≤ bw) (hbo : B ≤ bo) :
  ∀ (d b : Nat), b + d = 2 ^ n → ∀ (l : List Bool) (v : Value) (xs : List S28) (W : World), l.length = 2 ^ n → xs.length + 2 ^ d ≤ 100000 → LSt B bw bo w0 l v xs W →
   Calls Tryz.prog 83 #[.slice (some ⟨bw, 0, none⟩) (2 ^ n) (2 ^ n), .int .i64 (b : Int), .int .i64 (n : Int), .slice Ac clues.length cc, .pointer (some ⟨bo, 0, none⟩)] W (LPost B bw bo w0 (2 ^ n) b (l.take b) (xs ++ lookP n clues d (l.take b)))
 | 0, b, hb, l, v, xs, W, hl, hx, hS => by
  obtain rfl : b = 2 ^ n := by omega
  rw [List.take_of_length_le (Nat.le_of_eq hl), lookP]
  exact (pzLook_leaf n hn1 hn clues hcl hcn B bw bo w0 hB0 Ac cc hC hbw hbo l hl v xs (by omega) W hS).mono fun e w' ⟨he, v', hs⟩ => ⟨he, v', l, hs, hl, List.take_of_length_le (Nat.le_of_eq hl)⟩
 | d + 1, b, hb, l, v, xs, W, hl, hx, hS =>
  pzLook_step n hn1 hn clues clues.length cc Ac B bw bo w0 hbw (2 ^ n) (Nat.le_trans (Nat.pow_le_pow_right (by decide) hn) (by decide)) b d hb
   (fun l' v' xs' W' h1 h2 h3 => pzLook_any n hn1 hn clues hcl hcn B bw bo w0 hB0 Ac cc hC hbw hbo d (b + 1) (by omega) l' v' xs' W' h1 h2 h3) l hl v xs hx W hS
end Go.Proofs.YtnncjnjfdhbddaaGreat.Z
namespace Go.Proofs.YtnncjnjfdhbddaaGreat.Z
open Go.RowKit Go.Proofs.YtnncjnjfdhbddaaGreatW.PrintWords Go.Proofs.YtnncjnjfdhbddaaGreatW.PrintLast Go.Proofs.YtnncjnjfdhbddaaGreatW.PrintMore
attribute [local go_sem] max2_int min2_int max_two min_two max_three min_three max_four min_four
set_option linter.unusedVariables false
set_option linter.unusedSimpArgs false
def small9 (g : S28) : Prop := g.f1.length ≤ 1000 ∧ ∀ s ∈ g.f1, s.length ≤ 9
def foundG (n : Nat) (clues : List S86) : List S28 := lookP n clues (2 ^ n) []
theorem lookP_mem (n : Nat) (clues : List S86) : ∀ d pre, ∀ x ∈ lookP n clues d pre, ∃ l, l.length = pre.length + d ∧ x = gameV n l
 | 0, pre, x, hx => by
  rw [lookP, leafL] at hx
  split at hx
  ·exact ⟨pre, rfl, by simpa using hx⟩
  ·simp at hx
 | d + 1, pre, x, hx => by
  rw [lookP] at hx
  rcases List.mem_append.1 hx with h | h
  ·obtain ⟨l, h1, h2⟩ := lookP_mem n clues d _ x h
   exact ⟨l, by rw [h1]; simp; omega, h2⟩
  ·split at h
   ·simp at h
   ·obtain ⟨l, h1, h2⟩ := lookP_mem n clues d _ x h
    exact ⟨l, by rw [h1]; simp; omega, h2⟩
theorem setI_small : ∀ m, m < 16 → (setI m).length ≤ 9 := by decide +kernel
theorem found_small (n : Nat) (clues : List S86) (hn : n ≤ 4) : ∀ x ∈ foundG n clues, small9 x := by
 intro x hx
 have h16 : 2 ^ n ≤ 16 := Nat.le_trans (Nat.pow_le_pow_right (by decide) hn) (by decide)
 obtain ⟨l, h1, rfl⟩ := lookP_mem n clues _ _ x hx
 have hl : l.length ≤ 16 := by rw [h1]; simpa using h16
 refine ⟨?_, fun s hs => ?_⟩
 ·show (srtP befB (partS (leastV l) l.length)).length ≤ 1000
  rw [srtP_len]
  have := partS_len (leastV l) l.length
  omega
 ·have h2 := (srtP_perm befB _).mem_iff.1 hs
  obtain ⟨m, hm, rfl⟩ := List.mem_map.1 h2
  exact setI_small m (by have := List.mem_range.1 (List.mem_filter.1 hm).1; omega)
set_option maxRecDepth 100000 in
set_option maxHeartbeats 8000000 in
theorem pzAll_any (n : Nat) (hn1 : 1 ≤ n) (hn : n ≤ 4) (clues : List S86) (hcl : ∀ c ∈ clues, clueB (n : Int) c = true) (hcn : clues.length ≤ 1000) (Ac : Option Addr) (cc : Nat) (w : World) (hC : Kd.C k86 w Ac clues.length clues) :
  Calls Tryz.prog 52 #[.int .i64 (n : Int), .slice Ac clues.length cc] w fun e w' => ∃ v : Value, e = .returned v ∧ Kd.R k28 28 w' w.heap.size (fun _ => True) v (srtP befG (foundG n clues)) ∧ Below w.heap.size w w' := by
 have h4 : wrap64 (2 ^ n) = ((2 ^ n : Nat) : Int) := wrap_pow (by omega) rfl
 have h4m : wrap64 (2 ^ min n 64) = ((2 ^ n : Nat) : Int) := by rw [show min n 64 = n by omega]; exact h4
 have h16 : 2 ^ n ≤ 16 := Nat.le_trans (Nat.pow_le_pow_right (by decide) hn) (by decide)
 have hlook : ∀ (bw bo : Nat) (hbw : w.heap.size ≤ bw) (hbo : w.heap.size ≤ bo) (W : World) (hS : LSt w.heap.size bw bo w (List.replicate (2 ^ n) false) (.slice none 0 0) [] W),
   Calls Tryz.prog 83 #[.slice (some ⟨bw, 0, none⟩) (2 ^ n) (2 ^ n), .int .i64 0, .int .i64 (n : Int), .slice Ac clues.length cc, .pointer (some ⟨bo, 0, none⟩)] W (LPost w.heap.size bw bo w (2 ^ n) 0 [] (foundG n clues)) := fun bw bo hbw hbo W hS =>
  pzLook_any n hn1 hn clues hcl hcn w.heap.size bw bo w rfl Ac cc hC hbw hbo (2 ^ n) 0 (by omega) (List.replicate (2 ^ n) false) (.slice none 0 0) [] W (by simp) (by
   have : 2 ^ 2 ^ n ≤ 2 ^ 16 := Nat.pow_le_pow_right (by decide) h16
   simp only [List.length_nil, Nat.zero_add]
   exact Nat.le_trans this (by decide)) hS
 have hfl : (foundG n clues).length ≤ 65536 := Nat.le_trans (lookP_len n clues (2 ^ n) []) (Nat.pow_le_pow_right (by decide) h16)
 have HX2 := Aside0.mk (found_small n clues hn)
 generalize foundG n clues = xs at *
 have HL := Aside0.mk (fun k => srtP_len befG (xs.take k))
 have kmk := print_make_of (P := Tryz.prog) 66 4 (.bool false) 1 Tryz.underlying66 infoBo rfl (by decide) (2 ^ n) (by omega)
 have HLK := Aside0.mk hlook
 clear hlook hC hcl hcn
 generalize clues.length = L at *
 obtain ⟨T, hT⟩ : ∃ T, T = 2 ^ n := ⟨_, rfl⟩
 have HT := Aside0.mk hT
 rw [← hT] at h4 h4m kmk HLK h16
 clear hT
 obtain ⟨N, hN⟩ : ∃ N, N = xs.length := ⟨_, rfl⟩
 have HN := Aside0.mk hN
 have hfl2 : N ≤ 65536 := hN ▸ hfl
 clear hN hfl
 go_enter Tryz.func52, Tryz.ntmps52
 go_wp2_with (go_at_call 83; go_must (refine (HLK.out (w.heap.size + 1) w.heap.size (by omega) (by omega) _ ?sS).mono ?_); (case sS => exact ⟨by unfold WRow; rw [heap2_1, List.map_replicate, madeCells_one], heap2_0 _ _ _, Kd.R_nil _ _ _ _ _, (((Below.refl _ _).alloc (Nat.le_refl _) _).alloc (by simp) _)⟩); rintro e w1 ⟨rfl, v1, l1, hs1, hl1, ht1⟩; have hq1 : w1.cell? ⟨w.heap.size, 0, none⟩ = some v1 := (blk_cell hs1.box 0).trans rfl; obtain ⟨A0, c0, e0⟩ := Kd.R_slice hs1.own; rw [← HN.out] at e0; subst e0; have HX := Aside0.mk hs1.own; have HB1 := Aside0.mk hs1.bel; have HW1 := Aside0.mk hs1.bel.size; clear hs1 hl1 ht1)
 clear kmk h4 h4m
 go_loopg [6, 8, 9, 10, 19] N (fun gg s3 _ _ _ s10 wr => ∃ kk : Nat, kk ≤ N ∧ N - kk ≤ gg ∧ s10 = .int .i64 kk ∧ ∃ Ao co, s3 = .slice Ao kk co ∧ Aside0 (Below w1.heap.size w1 wr) ∧ Aside0 (Kd.R k28 28 wr w.heap.size (fun _ => True) s3 (srtP befG (xs.take kk))))
 case atStart => exact ⟨0, Nat.zero_le _, by omega, rfl, none, 0, rfl, ⟨Below.refl _ _⟩, ⟨Kd.R_nil _ _ _ _ _⟩⟩
 case round =>
  obtain ⟨kk, hkk, hg, rfl, Ao, co, rfl, BW, HO⟩ := hrel
  by_cases hlt : kk < N
  ·have hltz : (kk : Int) < (N : Int) := by omega
   have h0z : (0 : Int) ≤ (kk : Int) := by omega
   obtain ⟨ad, A1, c1, e, hcell0, hcell1, hl1, hC1, hM1⟩ := game_at (Kd.R_below HX.out BW.out) kk hlt
   have hxm : xs.getD kk z28 ∈ xs := by have := HN.out; simp [List.getD_eq_getElem?_getD, show kk < xs.length by omega]
   have hx1 := HX2.out _ hxm
   have hst := srtP_take befG xs z28 kk (by have := HN.out; omega)
   generalize xs.getD kk z28 = x at *
   have hlo : (srtP befG (xs.take kk)).length = kk := by rw [HL.out, List.length_take]; have := HN.out; omega
   have hom : ∀ y ∈ srtP befG (xs.take kk), small9 y := by
    intro y hy
    exact HX2.out y (List.mem_of_mem_take ((srtP_perm befG _).mem_iff.1 hy))
   have HST := Aside0.mk hst
   have HOM := Aside0.mk hom
   have HLO := Aside0.mk hlo
   have HXS1 := Aside0.mk hx1
   have HW1b := Aside0.mk (Nat.le_trans HW1.out BW.out.size)
   subst e
   clear hst hom hlo hxm hx1
   generalize srtP befG (xs.take kk) = os at *
   have HC0 := Aside0.mk hC1
   have HM0 := Aside0.mk hM1
   clear hC1 hM1
   obtain ⟨bg, hbg⟩ : ∃ bg, bg = wr.heap.size := ⟨_, rfl⟩
   have HBGE := Aside0.mk hbg
   go_wp2
   rw [← hbg]
   obtain ⟨wo, hwo⟩ : ∃ wo, wo = wr.alloc (.cells #[.int .i64 x.f0, .slice A1 x.f1.length c1] 28) := ⟨_, rfl⟩
   rw [← hwo]
   have HBW0 := Aside0.mk (show Below wr.heap.size wr wo from hwo ▸ (Below.refl _ _).alloc (Nat.le_refl _) _)
   have hb0 : wo.heap[bg]? = some (.cells #[.int .i64 x.f0, .slice A1 x.f1.length c1] 28 (0, 0)) := by rw [hwo, hbg]; exact heap1_0 _ _
   have HBW1 := Aside0.mk (Below.trans BW.out (HBW0.out.mono BW.out.size))
   have HO0 := Aside0.mk (Kd.R_below HO.out HBW0.out)
   have HCG := Aside0.mk (Kd.C_below HC0.out HBW0.out)
   have HMG := Aside0.mk (Kd.M_below HM0.out HBW0.out)
   have HBG0 := Aside0.mk hb0
   have hoz := HBW0.out.size
   have HOZ := Aside0.mk hoz
   clear hcell0 hcell1 hbg hwo hb0 hoz HO BW HC0 HM0
   go_loopg [9] kk (fun gg s6 wq => ∃ k : Nat, k ≤ kk ∧ kk - k ≤ gg ∧ s6 = .int .i64 k ∧ Aside0 (Below w1.heap.size w1 wq) ∧ Aside0 (Below wo.heap.size wo wq) ∧ Aside0 (∀ i, i < k → befG (os.getD i z28) x = true))
   case atStart => exact ⟨0, Nat.zero_le _, by omega, rfl, HBW1, ⟨Below.refl _ _⟩, ⟨fun i hi => absurd hi (Nat.not_lt_zero _)⟩⟩
   case round =>
    obtain ⟨k, hk, hg2, rfl, BWr, BWo, HA⟩ := hrel
    have HBG := Aside0.mk (blk_below HBG0.out BWo.out)
    have HO := Aside0.mk (Kd.R_below HO0.out BWo.out)
    have HC1 := Aside0.mk (Kd.C_below HCG.out BWo.out)
    have HM1' := Kd.M_below HMG.out BWo.out
    have HM1 := Aside0.mk (show k28.M wr w.heap.size (fun k => k < wr.heap.size) x [.int .i64 x.f0, .slice A1 x.f1.length c1] from k28.M_mono (fun j hj => Nat.lt_of_lt_of_le hj (Nat.le_trans HOZ.out BWo.out.size)) HM1')
    obtain ⟨_, _, he3, hkco, hrw⟩ := R_rowsM HO.out
    have HLO' := HLO.out
    injection he3 with e4 e6 e5
    clear e6
    rw [← e4, HLO'] at hrw
    rw [← e5, HLO'] at hkco
    have HRW := Aside0.mk (show ReadsRow (k28.M wr w.heap.size (fun k => k < wr.heap.size)) 2 wr Ao kk os from hrw)
    have HCO := Aside0.mk hkco
    have hlgb : bg < wr.heap.size := blk_lt HBG.out
    have hq0 : wr.cell? ⟨bg, 0, none⟩ = some (.int .i64 x.f0) := (blk_cell HBG.out 0).trans rfl
    have hq1 : wr.cell? ⟨bg, 1, none⟩ = some (.slice A1 x.f1.length c1) := (blk_cell HBG.out 1).trans rfl
    have hqa : ∀ o, (wr.alloc o).cell? ⟨bg, 0, none⟩ = some (.int .i64 x.f0) ∧ (wr.alloc o).cell? ⟨bg, 1, none⟩ = some (.slice A1 x.f1.length c1) := fun o => ⟨(blk_cell (blk_alloc HBG.out o) 0).trans rfl, (blk_cell (blk_alloc HBG.out o) 1).trans rfl⟩
    have hqd : ∀ d o, ((wr.drewN d).alloc o).cell? ⟨bg, 0, none⟩ = some (.int .i64 x.f0) ∧ ((wr.drewN d).alloc o).cell? ⟨bg, 1, none⟩ = some (.slice A1 x.f1.length c1) := fun d o => ⟨(blk_cell (blk_alloc (blk_drewN HBG.out d) o) 0).trans rfl, (blk_cell (blk_alloc (blk_drewN HBG.out d) o) 1).trans rfl⟩
    clear hrw hkco e4 e5 HLO' HM1'
    by_cases hkl : k < kk
    ·have hkz : (k : Int) < (kk : Int) := by omega
     have hkz0 : (0 : Int) ≤ (k : Int) := by omega
     have hkd : decide ((k : Int) < (kk : Int)) = true := decide_eq_true hkz
     obtain ⟨ad2, A2, c2, e2, hc20, hc21, hl2, hC2, _⟩ := game_at HO.out k hkl
     have hy1 := HOM.out (os.getD k z28) (by have := HLO.out; simp [List.getD_eq_getElem?_getD, show k < os.length by omega])
     generalize hyy : os.getD k z28 = y at *
     have HYY := Aside0.mk hyy
     have hgb := fun W' (hB : Below wr.heap.size wr W') => spec_gmBefore.calls (y.f1.length + 21) y.f0 A2 c2 y.f1 x.f0 A1 c1 x.f1 (befG y x) W' (Kd.C_below hC2 hB) hl2 (Kd.C_below HC1.out hB) hl1 (gmBefore_f _ _ hy1.1 hy1.2 HXS1.out.2 _ _)
     subst e2
     clear hC2 hyy
     cases hbf : befG y x with
     | true =>
      rw [hbf] at hgb
      have HBF := Aside0.mk hbf
      have HGB := Aside0.mk hgb
      clear hbf hgb
      go_wp2
      go_region_held3 (fun w' => w'.cell? ⟨bg, 0, none⟩ = some (.int .i64 x.f0) ∧ w'.cell? ⟨bg, 1, none⟩ = some (.slice A1 x.f1.length c1) ∧ w'.cell? (ad2.add (k * 2)) = some (.int .i64 y.f0) ∧ w'.cell? ⟨(ad2.add (k * 2)).block, (ad2.add (k * 2)).off + 1, none⟩ = some (.slice A2 y.f1.length c2)) (go_keep)
       (first | (go_at_call 84; refine (HGB.out _ (by (with_reducible repeat (first | exact Below.refl _ _ | apply below_alloc | apply pw_below_drewN | apply below_drew)))).mono ?_; rintro e w5 ⟨rfl, hb5⟩; have HB5 := Aside0.mk (show Below wr.heap.size wr w5 from Below.trans (by (with_reducible repeat (first | exact Below.refl _ _ | apply below_alloc | apply pw_below_drewN | apply below_drew))) hb5); have g0 : w5.cell? ⟨bg, 0, none⟩ = some (.int .i64 x.f0) := pw_cell_below HB5.out hq0; have g1 : w5.cell? ⟨bg, 1, none⟩ = some (.slice A1 x.f1.length c1) := pw_cell_below HB5.out hq1; have g2 : w5.cell? (ad2.add (k * 2)) = some (.int .i64 y.f0) := pw_cell_below HB5.out hc20; have g3 : w5.cell? ⟨(ad2.add (k * 2)).block, (ad2.add (k * 2)).off + 1, none⟩ = some (.slice A2 y.f1.length c2) := pw_cell_below HB5.out hc21; clear hb5))
      go_wp2
      go_roundg (kk - (k + 1))
      case measure => omega
      case rel =>
       refine ⟨k + 1, by omega, by omega, by go_num, ⟨Below.trans BWr.out (HB5.out.mono BWr.out.size)⟩, ⟨Below.trans BWo.out (HB5.out.mono BWo.out.size)⟩, ⟨fun i hi => ?_⟩⟩
       by_cases hi2 : i = k
       ·subst hi2; rw [HYY.out]; exact HBF.out
       ·exact HA.out i (by omega)
     | false =>
      rw [hbf] at hgb
      have HBF := Aside0.mk hbf
      have HGB := Aside0.mk hgb
      clear hbf hgb
      go_wp2
      go_region_held3 (fun w' => w'.cell? ⟨bg, 0, none⟩ = some (.int .i64 x.f0) ∧ w'.cell? ⟨bg, 1, none⟩ = some (.slice A1 x.f1.length c1) ∧ w'.cell? (ad2.add (k * 2)) = some (.int .i64 y.f0) ∧ w'.cell? ⟨(ad2.add (k * 2)).block, (ad2.add (k * 2)).off + 1, none⟩ = some (.slice A2 y.f1.length c2)) (go_keep)
       (first | (go_at_call 84; refine (HGB.out _ (by (with_reducible repeat (first | exact Below.refl _ _ | apply below_alloc | apply pw_below_drewN | apply below_drew)))).mono ?_; rintro e w5 ⟨rfl, hb5⟩; have HB5 := Aside0.mk (show Below wr.heap.size wr w5 from Below.trans (by (with_reducible repeat (first | exact Below.refl _ _ | apply below_alloc | apply pw_below_drewN | apply below_drew))) hb5); have g0 : w5.cell? ⟨bg, 0, none⟩ = some (.int .i64 x.f0) := pw_cell_below HB5.out hq0; have g1 : w5.cell? ⟨bg, 1, none⟩ = some (.slice A1 x.f1.length c1) := pw_cell_below HB5.out hq1; have g2 : w5.cell? (ad2.add (k * 2)) = some (.int .i64 y.f0) := pw_cell_below HB5.out hc20; have g3 : w5.cell? ⟨(ad2.add (k * 2)).block, (ad2.add (k * 2)).off + 1, none⟩ = some (.slice A2 y.f1.length c2) := pw_cell_below HB5.out hc21; clear hb5))
      clear g0 g1 g2 g3 hc20 hc21
      have BWn := Aside0.mk (Below.trans BWr.out (HB5.out.mono BWr.out.size))
      have BWp := Aside0.mk (Below.trans BWo.out (HB5.out.mono BWo.out.size))
      clear BWr BWo HBG HO HC1 HM1 HRW HCO hlgb hq0 hq1 hqa hqd
      have HBG := Aside0.mk (blk_below HBG0.out BWp.out)
      have HO := Aside0.mk (Kd.R_below HO0.out BWp.out)
      have HC1 := Aside0.mk (Kd.C_below HCG.out BWp.out)
      have HM1' := Kd.M_below HMG.out BWp.out
      have HM1 := Aside0.mk (show k28.M w5 w.heap.size (fun k => k < w5.heap.size) x [.int .i64 x.f0, .slice A1 x.f1.length c1] from k28.M_mono (fun j hj => Nat.lt_of_lt_of_le hj (Nat.le_trans HOZ.out BWp.out.size)) HM1')
      obtain ⟨_, _, he3, hkco, hrw⟩ := R_rowsM HO.out
      have HLO' := HLO.out
      injection he3 with e4 e6 e5
      clear e6
      rw [← e4, HLO'] at hrw
      rw [← e5, HLO'] at hkco
      have HRW := Aside0.mk (show ReadsRow (k28.M w5 w.heap.size (fun k => k < w5.heap.size)) 2 w5 (some ad2) kk os from hrw)
      have HCO := Aside0.mk hkco
      have hlgb : bg < w5.heap.size := blk_lt HBG.out
      have hq0 : w5.cell? ⟨bg, 0, none⟩ = some (.int .i64 x.f0) := (blk_cell HBG.out 0).trans rfl
      have hq1 : w5.cell? ⟨bg, 1, none⟩ = some (.slice A1 x.f1.length c1) := (blk_cell HBG.out 1).trans rfl
      have hqa : ∀ o, (w5.alloc o).cell? ⟨bg, 0, none⟩ = some (.int .i64 x.f0) ∧ (w5.alloc o).cell? ⟨bg, 1, none⟩ = some (.slice A1 x.f1.length c1) := fun o => ⟨(blk_cell (blk_alloc HBG.out o) 0).trans rfl, (blk_cell (blk_alloc HBG.out o) 1).trans rfl⟩
      have hqd : ∀ d o, ((w5.drewN d).alloc o).cell? ⟨bg, 0, none⟩ = some (.int .i64 x.f0) ∧ ((w5.drewN d).alloc o).cell? ⟨bg, 1, none⟩ = some (.slice A1 x.f1.length c1) := fun d o => ⟨(blk_cell (blk_alloc (blk_drewN HBG.out d) o) 0).trans rfl, (blk_cell (blk_alloc (blk_drewN HBG.out d) o) 1).trans rfl⟩
      clear hrw hkco e4 e5 HLO' HM1'
      have hkco : kk ≤ co := HCO.out
      have hrt : ReadsRow (k28.M w5 w.heap.size (fun k => k < w5.heap.size)) 2 w5 (some ad2) k (os.take k) := (rows_take (HLO.out.symm ▸ HRW.out) (by have := HLO.out; omega))
      have HRT := Aside0.mk hrt
      obtain ⟨Ad, hAd⟩ : ∃ Ad, Ad = (if co = k then (some ad2) else (some ad2).map (·.add (k * 2))) := ⟨_, rfl⟩
      have hrd : ReadsRow (k28.M w5 w.heap.size (fun k => k < w5.heap.size)) 2 w5 Ad (kk - k) (os.drop k) := by
       have hl := HLO.out
       have h := rows_drop (m := k) (c := co) (hl.symm ▸ HRW.out) (by omega) (by omega)
       rw [hl] at h
       rw [hAd]
       exact h
      have HRD := Aside0.mk hrd
      obtain ⟨hct, hcf⟩ := cutG (some ad2) kk co k (by omega) hkco
      rw [← hAd] at hcf
      have HLE := Aside0.mk (Nat.le_trans HW1.out BWn.out.size)
      have hins := insP_at befG os x z28 k (by have := HLO.out; omega) HA.out (.inr (by rw [HYY.out]; exact HBF.out))
      have HINS := Aside0.mk hins
      clear hrt hrd hAd hins hkco
      go_wp2
      go_region_law (first | (refine Kd.R_append_rows_step k28 (Rr := k28.M w5 w.heap.size (fun k => k < w5.heap.size)) (w0 := w5) w.heap.size (by rfl) (.tmp 37) (.tmp 40) 53 28 (.agg #[.int .i64 0, .slice none 0 0]) 32 rfl Tryz.underlying53 infoG rfl (by decide) (by decide) (.slice (some ⟨w5.heap.size, 0, none⟩) 0 0) [] (os.take k) _ _ _ (fun _ => True) (fun j => j < w5.heap.size) rfl rfl ?aO ?aR ?aK ?aN (fun _ _ => trivial) ?aB ?aS ?aL ?_; (case aO => exact R_empty _ _ _ (by first | exact heap1_0 _ _ | exact heap2_0 _ _ _ | exact heap2_1 _ _ _) (Nat.le_trans HLE.out (by simp))); (case aR => exact HRT.out.imp_ (by (with_reducible repeat (first | exact Below.refl _ _ | apply below_alloc | apply pw_below_drewN | apply below_drew))) (fun _ _ h => h)); (case aK => exact fun _ _ h => k28.M_move (fun j hj => (show Below w5.heap.size w5 _ from (by (with_reducible repeat (first | exact Below.refl _ _ | apply below_alloc | apply pw_below_drewN | apply below_drew)))).block j hj) h); (case aN => exact fun j (hj : j < w5.heap.size) => ⟨trivial, fun e => by have h1 : j = w5.heap.size := Option.some.inj e; omega⟩); (case aB => exact Below.mono (show Below w5.heap.size w5 _ from (by (with_reducible repeat (first | exact Below.refl _ _ | apply below_alloc | apply pw_below_drewN | apply below_drew)))) HLE.out); (case aS => exact Nat.le_trans HLE.out (by simp; try omega)); (case aL => have h1 := HLO.out; first | (simp; done) | (simp; omega)); intro v7 w7 ho7 hb7 hg7 hat7; have HX7 := Aside0.mk (show w7.heap[w5.heap.size + 1]? = some (.cells #[.int .i64 x.f0, .slice A1 x.f1.length c1] 28 (0, 0)) from blk_grown (by first | exact heap2_1 _ _ _ | exact heap2_0 _ _ _) hg7 (by intro e; have h1 := Option.some.inj e; revert h1; simp)); have HB7 := Aside0.mk ((show Below w5.heap.size w5 _ from (by (with_reducible repeat (first | exact Below.refl _ _ | apply below_alloc | apply pw_below_drewN | apply below_drew)))).grown hg7 (by simp; try omega) (fun j e => by have h1 : w5.heap.size = j := Option.some.inj e; omega)); have HNE7 := Aside0.mk (own_grow (N := w5.heap.size) hat7 (fun j e => by have h1 : w5.heap.size = j := Option.some.inj e; omega) (by simp; try omega)); have HO7 := Aside0.mk ho7; have hq7 := blk_below HBG.out HB7.out; have hq0 : w7.cell? ⟨bg, 0, none⟩ = some (.int .i64 x.f0) := (blk_cell hq7 0).trans rfl; have hq1 : w7.cell? ⟨bg, 1, none⟩ = some (.slice A1 x.f1.length c1) := (blk_cell hq7 1).trans rfl; clear ho7 hb7 hg7 hat7 hq7) | (refine Kd.R_append_rows_step k28 (Rr := k28.M w5 w.heap.size (fun k => k < w5.heap.size)) (w0 := w5) w.heap.size (by rfl) (.tmp 37) (.tmp 40) 53 28 (.agg #[.int .i64 0, .slice none 0 0]) 32 rfl Tryz.underlying53 infoG rfl (by decide) (by decide) (.slice (some ⟨w5.heap.size + 1, 0, none⟩) 0 0) [] (os.take k) _ _ _ (fun _ => True) (fun j => j < w5.heap.size) rfl rfl ?aO ?aR ?aK ?aN (fun _ _ => trivial) ?aB ?aS ?aL ?_; (case aO => exact R_empty _ _ _ (by first | exact heap1_0 _ _ | exact heap2_0 _ _ _ | exact heap2_1 _ _ _) (Nat.le_trans HLE.out (by simp))); (case aR => exact HRT.out.imp_ (by (with_reducible repeat (first | exact Below.refl _ _ | apply below_alloc | apply pw_below_drewN | apply below_drew))) (fun _ _ h => h)); (case aK => exact fun _ _ h => k28.M_move (fun j hj => (show Below w5.heap.size w5 _ from (by (with_reducible repeat (first | exact Below.refl _ _ | apply below_alloc | apply pw_below_drewN | apply below_drew)))).block j hj) h); (case aN => exact fun j (hj : j < w5.heap.size) => ⟨trivial, fun e => by have h1 : j = w5.heap.size + 1 := Option.some.inj e; omega⟩); (case aB => exact Below.mono (show Below w5.heap.size w5 _ from (by (with_reducible repeat (first | exact Below.refl _ _ | apply below_alloc | apply pw_below_drewN | apply below_drew)))) HLE.out); (case aS => exact Nat.le_trans HLE.out (by simp; try omega)); (case aL => have h1 := HLO.out; first | (simp; done) | (simp; omega)); intro v7 w7 ho7 hb7 hg7 hat7; have HX7 := Aside0.mk (show w7.heap[w5.heap.size]? = some (.cells #[.int .i64 x.f0, .slice A1 x.f1.length c1] 28 (0, 0)) from blk_grown (by first | exact heap2_1 _ _ _ | exact heap2_0 _ _ _) hg7 (by intro e; have h1 := Option.some.inj e; revert h1; simp)); have HB7 := Aside0.mk ((show Below w5.heap.size w5 _ from (by (with_reducible repeat (first | exact Below.refl _ _ | apply below_alloc | apply pw_below_drewN | apply below_drew)))).grown hg7 (by simp; try omega) (fun j e => by have h1 : w5.heap.size + 1 = j := Option.some.inj e; omega)); have HNE7 := Aside0.mk (own_grow (N := w5.heap.size) hat7 (fun j e => by have h1 : w5.heap.size + 1 = j := Option.some.inj e; omega) (by simp; try omega)); have HO7 := Aside0.mk ho7; have hq7 := blk_below HBG.out HB7.out; have hq0 : w7.cell? ⟨bg, 0, none⟩ = some (.int .i64 x.f0) := (blk_cell hq7 0).trans rfl; have hq1 : w7.cell? ⟨bg, 1, none⟩ = some (.slice A1 x.f1.length c1) := (blk_cell hq7 1).trans rfl; clear ho7 hb7 hg7 hat7 hq7) | (refine Kd.R_append_rows_step k28 (Rr := k28.M w5 w.heap.size (fun k => k < w5.heap.size)) (w0 := w5) w.heap.size (by rfl) (.tmp 37) (.tmp 40) 53 28 (.agg #[.int .i64 0, .slice none 0 0]) 32 rfl Tryz.underlying53 infoG rfl (by decide) (by decide) (.slice (some ⟨w5.heap.size, 0, none⟩) 0 0) [] (os.take k) _ _ _ (fun _ => True) (fun j => j < w5.heap.size) rfl rfl ?aO ?aR ?aK ?aN (fun _ _ => trivial) ?aB ?aS ?aL ?_; (case aO => exact R_empty _ _ _ (by first | exact heap1_0 _ _ | exact heap2_0 _ _ _ | exact heap2_1 _ _ _) (Nat.le_trans HLE.out (by simp))); (case aR => exact HRT.out.imp_ (by (with_reducible repeat (first | exact Below.refl _ _ | apply below_alloc | apply pw_below_drewN | apply below_drew))) (fun _ _ h => h)); (case aK => exact fun _ _ h => k28.M_move (fun j hj => (show Below w5.heap.size w5 _ from (by (with_reducible repeat (first | exact Below.refl _ _ | apply below_alloc | apply pw_below_drewN | apply below_drew)))).block j hj) h); (case aN => exact fun j (hj : j < w5.heap.size) => ⟨trivial, fun e => by have h1 : j = w5.heap.size := Option.some.inj e; omega⟩); (case aB => exact Below.mono (show Below w5.heap.size w5 _ from (by (with_reducible repeat (first | exact Below.refl _ _ | apply below_alloc | apply pw_below_drewN | apply below_drew)))) HLE.out); (case aS => exact Nat.le_trans HLE.out (by simp; try omega)); (case aL => have h1 := HLO.out; first | (simp; done) | (simp; omega)); intro v7 w7 ho7 hb7 hg7 hat7; have HB7 := Aside0.mk ((show Below w5.heap.size w5 _ from (by (with_reducible repeat (first | exact Below.refl _ _ | apply below_alloc | apply pw_below_drewN | apply below_drew)))).grown hg7 (by simp; try omega) (fun j e => by have h1 : w5.heap.size = j := Option.some.inj e; omega)); have HNE7 := Aside0.mk (own_grow (N := w5.heap.size) hat7 (fun j e => by have h1 : w5.heap.size = j := Option.some.inj e; omega) (by simp; try omega)); have HO7 := Aside0.mk ho7; have hq7 := blk_below HBG.out HB7.out; have hq0 : w7.cell? ⟨bg, 0, none⟩ = some (.int .i64 x.f0) := (blk_cell hq7 0).trans rfl; have hq1 : w7.cell? ⟨bg, 1, none⟩ = some (.slice A1 x.f1.length c1) := (blk_cell hq7 1).trans rfl; clear ho7 hb7 hg7 hat7 hq7) | (refine Kd.R_append_rows_step k28 (Rr := k28.M w5 w.heap.size (fun k => k < w5.heap.size)) (w0 := w5) w.heap.size (by rfl) (.tmp 41) (.tmp 43) 53 28 (.agg #[.int .i64 0, .slice none 0 0]) 32 rfl Tryz.underlying53 infoG rfl (by decide) (by decide) v7 ([] ++ os.take k) [x] _ _ _ (fun _ => True) (fun j => j < w5.heap.size) rfl rfl HO7.out ?bR ?bK ?bN (fun _ _ => trivial) ?bB ?bS ?bL ?_; (case bR => exact box_row HX7.out HM1.out); (case bK => exact fun _ _ h => k28.M_move (fun j hj => HB7.out.block j hj) h); (case bN => exact fun j (hj : j < w5.heap.size) => ⟨trivial, fun e => by have := HNE7.out j e.symm; omega⟩); (case bB => exact HB7.out.mono HLE.out); (case bS => exact Nat.le_trans HLE.out HB7.out.size); (case bL => have h1 := HLO.out; first | (simp; done) | (simp; omega)); intro v8 w8 ho8 hb8 hg8 hat8; have hne8 := own_grow (N := w5.heap.size) hat8 HNE7.out HB7.out.size; have HB8 := Aside0.mk (HB7.out.grown hg8 HB7.out.size HNE7.out); have HO8 := Aside0.mk ho8; have HNE8 := Aside0.mk hne8; clear ho8 hb8 hg8 hat8 hne8) | (refine Kd.R_append_step k28 (w0 := w5) w.heap.size (by rfl) (.tmp 41) (.tmp 43) 53 28 (.agg #[.int .i64 0, .slice none 0 0]) 32 rfl Tryz.underlying53 infoG rfl (by decide) (by decide) v7 ([] ++ os.take k) x [.int .i64 x.f0, .slice A1 x.f1.length c1] (fun _ => True) (fun j => j < w5.heap.size) rfl rfl ?bP ?bN (fun _ _ => trivial) HO7.out ?bB ?bS ?bL ?_; (case bP => exact k28.M_move (fun j hj => HB7.out.block j hj) HM1.out); (case bN => exact fun j (hj : j < w5.heap.size) => ⟨trivial, fun e => by have := HNE7.out j e.symm; omega⟩); (case bB => exact HB7.out.mono HLE.out); (case bS => exact Nat.le_trans HLE.out HB7.out.size); (case bL => have h1 := HLO.out; first | (simp; done) | (simp; omega)); intro v8 w8 ho8 hb8 hg8 hat8; have hne8 := own_grow (N := w5.heap.size) hat8 HNE7.out HB7.out.size; have HB8 := Aside0.mk (HB7.out.grown hg8 HB7.out.size HNE7.out); have HO8 := Aside0.mk ho8; have HNE8 := Aside0.mk hne8; clear ho8 hb8 hg8 hat8 hne8))
      all_goals
       go_wp2_with ((with_reducible refine gate_builtin (b := .append) (xs := #[.tmp 45, .tmp 48]) rfl ?_); at_builtin; go_must (refine Kd.R_append_rows k28 (Rr := k28.M w5 w.heap.size (fun k => k < w5.heap.size)) (w0 := w5) w.heap.size rfl (.tmp 45) (.tmp 48) 53 28 (.agg #[.int .i64 0, .slice none 0 0]) 32 rfl Tryz.underlying53 infoG rfl (by decide) (by decide) v8 ([] ++ os.take k ++ [x]) (os.drop k) _ _ _ (fun _ => True) (fun j => j < w5.heap.size) rfl rfl HO8.out ?cR ?cK ?cN (fun _ _ => trivial) ?cB ?cS ?cL ?_; (case cR => exact HRD.out.imp_ HB8.out (fun _ _ h => h)); (case cK => exact fun _ _ h => k28.M_move (fun j hj => HB8.out.block j hj) h); (case cN => exact fun j (hj : j < w5.heap.size) => ⟨trivial, fun e => by have := HNE8.out j e.symm; omega⟩); (case cB => exact HB8.out.mono HLE.out); (case cS => exact Nat.le_trans HLE.out HB8.out.size); (case cL => have h1 := HLO.out; first | (simp; done) | (simp; omega)); intro v9 w9 ho9 hb9 hg9 hat9; have hne9 := own_grow (N := w5.heap.size) hat9 HNE8.out HB8.out.size; have HB9 := Aside0.mk (HB8.out.grown hg9 HB8.out.size HNE8.out); have HO9 := Aside0.mk ho9; have HNE9 := Aside0.mk hne9; clear ho9 hb9 hg9 hat9 hne9))
       have ho9 := HO9.out
       rw [List.nil_append, HINS.out, ← HST.out] at ho9
       obtain ⟨A9, c9, rfl⟩ := Kd.R_slice ho9
       have hl9 : (srtP befG (xs.take (kk + 1))).length = kk + 1 := by rw [HL.out, List.length_take]; have := HN.out; omega
       rw [hl9] at ho9 ⊢
       have HO10 := Aside0.mk ho9
       clear ho9
       go_roundg (N - (kk + 1))
       case measure => omega
       case rel =>
        exact ⟨kk + 1, by omega, by omega, by go_num, A9, c9, rfl, ⟨Below.trans BWn.out (HB9.out.mono BWn.out.size)⟩, HO10⟩
    ·have hkz : ¬ (k : Int) < (kk : Int) := by omega
     have hkd : decide ((k : Int) < (kk : Int)) = false := decide_eq_false hkz
     go_wp2
     go_quiet (fail)
     have hb5 : Below wr.heap.size wr (wr.drewN nq) := pw_below_drewN (Below.refl _ _) _
     generalize wr.drewN nq = w5 at hb5 ⊢
     have HB5 := Aside0.mk hb5
     clear hb5
     have BWn := Aside0.mk (Below.trans BWr.out (HB5.out.mono BWr.out.size))
     have BWp := Aside0.mk (Below.trans BWo.out (HB5.out.mono BWo.out.size))
     clear BWr BWo HBG HO HC1 HM1 HRW HCO hlgb hq0 hq1 hqa hqd
     have HBG := Aside0.mk (blk_below HBG0.out BWp.out)
     have HO := Aside0.mk (Kd.R_below HO0.out BWp.out)
     have HC1 := Aside0.mk (Kd.C_below HCG.out BWp.out)
     have HM1' := Kd.M_below HMG.out BWp.out
     have HM1 := Aside0.mk (show k28.M w5 w.heap.size (fun k => k < w5.heap.size) x [.int .i64 x.f0, .slice A1 x.f1.length c1] from k28.M_mono (fun j hj => Nat.lt_of_lt_of_le hj (Nat.le_trans HOZ.out BWp.out.size)) HM1')
     obtain ⟨_, _, he3, hkco, hrw⟩ := R_rowsM HO.out
     have HLO' := HLO.out
     injection he3 with e4 e6 e5
     clear e6
     rw [← e4, HLO'] at hrw
     rw [← e5, HLO'] at hkco
     have HRW := Aside0.mk (show ReadsRow (k28.M w5 w.heap.size (fun k => k < w5.heap.size)) 2 w5 Ao kk os from hrw)
     have HCO := Aside0.mk hkco
     have hlgb : bg < w5.heap.size := blk_lt HBG.out
     have hq0 : w5.cell? ⟨bg, 0, none⟩ = some (.int .i64 x.f0) := (blk_cell HBG.out 0).trans rfl
     have hq1 : w5.cell? ⟨bg, 1, none⟩ = some (.slice A1 x.f1.length c1) := (blk_cell HBG.out 1).trans rfl
     have hqa : ∀ o, (w5.alloc o).cell? ⟨bg, 0, none⟩ = some (.int .i64 x.f0) ∧ (w5.alloc o).cell? ⟨bg, 1, none⟩ = some (.slice A1 x.f1.length c1) := fun o => ⟨(blk_cell (blk_alloc HBG.out o) 0).trans rfl, (blk_cell (blk_alloc HBG.out o) 1).trans rfl⟩
     have hqd : ∀ d o, ((w5.drewN d).alloc o).cell? ⟨bg, 0, none⟩ = some (.int .i64 x.f0) ∧ ((w5.drewN d).alloc o).cell? ⟨bg, 1, none⟩ = some (.slice A1 x.f1.length c1) := fun d o => ⟨(blk_cell (blk_alloc (blk_drewN HBG.out d) o) 0).trans rfl, (blk_cell (blk_alloc (blk_drewN HBG.out d) o) 1).trans rfl⟩
     clear hrw hkco e4 e5 HLO' HM1'
     have hkco : kk ≤ co := HCO.out
     have hrt : ReadsRow (k28.M w5 w.heap.size (fun k => k < w5.heap.size)) 2 w5 Ao k (os.take k) := (rows_take (HLO.out.symm ▸ HRW.out) (by have := HLO.out; omega))
     have HRT := Aside0.mk hrt
     obtain ⟨Ad, hAd⟩ : ∃ Ad, Ad = (if co = k then Ao else Ao.map (·.add (k * 2))) := ⟨_, rfl⟩
     have hrd : ReadsRow (k28.M w5 w.heap.size (fun k => k < w5.heap.size)) 2 w5 Ad (kk - k) (os.drop k) := by
      have hl := HLO.out
      have h := rows_drop (m := k) (c := co) (hl.symm ▸ HRW.out) (by omega) (by omega)
      rw [hl] at h
      rw [hAd]
      exact h
     have HRD := Aside0.mk hrd
     obtain ⟨hct, hcf⟩ := cutG Ao kk co k (by omega) hkco
     rw [← hAd] at hcf
     have HLE := Aside0.mk (Nat.le_trans HW1.out BWn.out.size)
     have hins := insP_at befG os x z28 k (by have := HLO.out; omega) HA.out (.inl (by have := HLO.out; omega))
     have HINS := Aside0.mk hins
     clear hrt hrd hAd hins hkco
     go_wp2
     go_region_law (first | (refine Kd.R_append_rows_step k28 (Rr := k28.M w5 w.heap.size (fun k => k < w5.heap.size)) (w0 := w5) w.heap.size (by rfl) (.tmp 37) (.tmp 40) 53 28 (.agg #[.int .i64 0, .slice none 0 0]) 32 rfl Tryz.underlying53 infoG rfl (by decide) (by decide) (.slice (some ⟨w5.heap.size, 0, none⟩) 0 0) [] (os.take k) _ _ _ (fun _ => True) (fun j => j < w5.heap.size) rfl rfl ?aO ?aR ?aK ?aN (fun _ _ => trivial) ?aB ?aS ?aL ?_; (case aO => exact R_empty _ _ _ (by first | exact heap1_0 _ _ | exact heap2_0 _ _ _ | exact heap2_1 _ _ _) (Nat.le_trans HLE.out (by simp))); (case aR => exact HRT.out.imp_ (by (with_reducible repeat (first | exact Below.refl _ _ | apply below_alloc | apply pw_below_drewN | apply below_drew))) (fun _ _ h => h)); (case aK => exact fun _ _ h => k28.M_move (fun j hj => (show Below w5.heap.size w5 _ from (by (with_reducible repeat (first | exact Below.refl _ _ | apply below_alloc | apply pw_below_drewN | apply below_drew)))).block j hj) h); (case aN => exact fun j (hj : j < w5.heap.size) => ⟨trivial, fun e => by have h1 : j = w5.heap.size := Option.some.inj e; omega⟩); (case aB => exact Below.mono (show Below w5.heap.size w5 _ from (by (with_reducible repeat (first | exact Below.refl _ _ | apply below_alloc | apply pw_below_drewN | apply below_drew)))) HLE.out); (case aS => exact Nat.le_trans HLE.out (by simp; try omega)); (case aL => have h1 := HLO.out; first | (simp; done) | (simp; omega)); intro v7 w7 ho7 hb7 hg7 hat7; have HX7 := Aside0.mk (show w7.heap[w5.heap.size + 1]? = some (.cells #[.int .i64 x.f0, .slice A1 x.f1.length c1] 28 (0, 0)) from blk_grown (by first | exact heap2_1 _ _ _ | exact heap2_0 _ _ _) hg7 (by intro e; have h1 := Option.some.inj e; revert h1; simp)); have HB7 := Aside0.mk ((show Below w5.heap.size w5 _ from (by (with_reducible repeat (first | exact Below.refl _ _ | apply below_alloc | apply pw_below_drewN | apply below_drew)))).grown hg7 (by simp; try omega) (fun j e => by have h1 : w5.heap.size = j := Option.some.inj e; omega)); have HNE7 := Aside0.mk (own_grow (N := w5.heap.size) hat7 (fun j e => by have h1 : w5.heap.size = j := Option.some.inj e; omega) (by simp; try omega)); have HO7 := Aside0.mk ho7; have hq7 := blk_below HBG.out HB7.out; have hq0 : w7.cell? ⟨bg, 0, none⟩ = some (.int .i64 x.f0) := (blk_cell hq7 0).trans rfl; have hq1 : w7.cell? ⟨bg, 1, none⟩ = some (.slice A1 x.f1.length c1) := (blk_cell hq7 1).trans rfl; clear ho7 hb7 hg7 hat7 hq7) | (refine Kd.R_append_rows_step k28 (Rr := k28.M w5 w.heap.size (fun k => k < w5.heap.size)) (w0 := w5) w.heap.size (by rfl) (.tmp 37) (.tmp 40) 53 28 (.agg #[.int .i64 0, .slice none 0 0]) 32 rfl Tryz.underlying53 infoG rfl (by decide) (by decide) (.slice (some ⟨w5.heap.size + 1, 0, none⟩) 0 0) [] (os.take k) _ _ _ (fun _ => True) (fun j => j < w5.heap.size) rfl rfl ?aO ?aR ?aK ?aN (fun _ _ => trivial) ?aB ?aS ?aL ?_; (case aO => exact R_empty _ _ _ (by first | exact heap1_0 _ _ | exact heap2_0 _ _ _ | exact heap2_1 _ _ _) (Nat.le_trans HLE.out (by simp))); (case aR => exact HRT.out.imp_ (by (with_reducible repeat (first | exact Below.refl _ _ | apply below_alloc | apply pw_below_drewN | apply below_drew))) (fun _ _ h => h)); (case aK => exact fun _ _ h => k28.M_move (fun j hj => (show Below w5.heap.size w5 _ from (by (with_reducible repeat (first | exact Below.refl _ _ | apply below_alloc | apply pw_below_drewN | apply below_drew)))).block j hj) h); (case aN => exact fun j (hj : j < w5.heap.size) => ⟨trivial, fun e => by have h1 : j = w5.heap.size + 1 := Option.some.inj e; omega⟩); (case aB => exact Below.mono (show Below w5.heap.size w5 _ from (by (with_reducible repeat (first | exact Below.refl _ _ | apply below_alloc | apply pw_below_drewN | apply below_drew)))) HLE.out); (case aS => exact Nat.le_trans HLE.out (by simp; try omega)); (case aL => have h1 := HLO.out; first | (simp; done) | (simp; omega)); intro v7 w7 ho7 hb7 hg7 hat7; have HX7 := Aside0.mk (show w7.heap[w5.heap.size]? = some (.cells #[.int .i64 x.f0, .slice A1 x.f1.length c1] 28 (0, 0)) from blk_grown (by first | exact heap2_1 _ _ _ | exact heap2_0 _ _ _) hg7 (by intro e; have h1 := Option.some.inj e; revert h1; simp)); have HB7 := Aside0.mk ((show Below w5.heap.size w5 _ from (by (with_reducible repeat (first | exact Below.refl _ _ | apply below_alloc | apply pw_below_drewN | apply below_drew)))).grown hg7 (by simp; try omega) (fun j e => by have h1 : w5.heap.size + 1 = j := Option.some.inj e; omega)); have HNE7 := Aside0.mk (own_grow (N := w5.heap.size) hat7 (fun j e => by have h1 : w5.heap.size + 1 = j := Option.some.inj e; omega) (by simp; try omega)); have HO7 := Aside0.mk ho7; have hq7 := blk_below HBG.out HB7.out; have hq0 : w7.cell? ⟨bg, 0, none⟩ = some (.int .i64 x.f0) := (blk_cell hq7 0).trans rfl; have hq1 : w7.cell? ⟨bg, 1, none⟩ = some (.slice A1 x.f1.length c1) := (blk_cell hq7 1).trans rfl; clear ho7 hb7 hg7 hat7 hq7) | (refine Kd.R_append_rows_step k28 (Rr := k28.M w5 w.heap.size (fun k => k < w5.heap.size)) (w0 := w5) w.heap.size (by rfl) (.tmp 37) (.tmp 40) 53 28 (.agg #[.int .i64 0, .slice none 0 0]) 32 rfl Tryz.underlying53 infoG rfl (by decide) (by decide) (.slice (some ⟨w5.heap.size, 0, none⟩) 0 0) [] (os.take k) _ _ _ (fun _ => True) (fun j => j < w5.heap.size) rfl rfl ?aO ?aR ?aK ?aN (fun _ _ => trivial) ?aB ?aS ?aL ?_; (case aO => exact R_empty _ _ _ (by first | exact heap1_0 _ _ | exact heap2_0 _ _ _ | exact heap2_1 _ _ _) (Nat.le_trans HLE.out (by simp))); (case aR => exact HRT.out.imp_ (by (with_reducible repeat (first | exact Below.refl _ _ | apply below_alloc | apply pw_below_drewN | apply below_drew))) (fun _ _ h => h)); (case aK => exact fun _ _ h => k28.M_move (fun j hj => (show Below w5.heap.size w5 _ from (by (with_reducible repeat (first | exact Below.refl _ _ | apply below_alloc | apply pw_below_drewN | apply below_drew)))).block j hj) h); (case aN => exact fun j (hj : j < w5.heap.size) => ⟨trivial, fun e => by have h1 : j = w5.heap.size := Option.some.inj e; omega⟩); (case aB => exact Below.mono (show Below w5.heap.size w5 _ from (by (with_reducible repeat (first | exact Below.refl _ _ | apply below_alloc | apply pw_below_drewN | apply below_drew)))) HLE.out); (case aS => exact Nat.le_trans HLE.out (by simp; try omega)); (case aL => have h1 := HLO.out; first | (simp; done) | (simp; omega)); intro v7 w7 ho7 hb7 hg7 hat7; have HB7 := Aside0.mk ((show Below w5.heap.size w5 _ from (by (with_reducible repeat (first | exact Below.refl _ _ | apply below_alloc | apply pw_below_drewN | apply below_drew)))).grown hg7 (by simp; try omega) (fun j e => by have h1 : w5.heap.size = j := Option.some.inj e; omega)); have HNE7 := Aside0.mk (own_grow (N := w5.heap.size) hat7 (fun j e => by have h1 : w5.heap.size = j := Option.some.inj e; omega) (by simp; try omega)); have HO7 := Aside0.mk ho7; have hq7 := blk_below HBG.out HB7.out; have hq0 : w7.cell? ⟨bg, 0, none⟩ = some (.int .i64 x.f0) := (blk_cell hq7 0).trans rfl; have hq1 : w7.cell? ⟨bg, 1, none⟩ = some (.slice A1 x.f1.length c1) := (blk_cell hq7 1).trans rfl; clear ho7 hb7 hg7 hat7 hq7) | (refine Kd.R_append_rows_step k28 (Rr := k28.M w5 w.heap.size (fun k => k < w5.heap.size)) (w0 := w5) w.heap.size (by rfl) (.tmp 41) (.tmp 43) 53 28 (.agg #[.int .i64 0, .slice none 0 0]) 32 rfl Tryz.underlying53 infoG rfl (by decide) (by decide) v7 ([] ++ os.take k) [x] _ _ _ (fun _ => True) (fun j => j < w5.heap.size) rfl rfl HO7.out ?bR ?bK ?bN (fun _ _ => trivial) ?bB ?bS ?bL ?_; (case bR => exact box_row HX7.out HM1.out); (case bK => exact fun _ _ h => k28.M_move (fun j hj => HB7.out.block j hj) h); (case bN => exact fun j (hj : j < w5.heap.size) => ⟨trivial, fun e => by have := HNE7.out j e.symm; omega⟩); (case bB => exact HB7.out.mono HLE.out); (case bS => exact Nat.le_trans HLE.out HB7.out.size); (case bL => have h1 := HLO.out; first | (simp; done) | (simp; omega)); intro v8 w8 ho8 hb8 hg8 hat8; have hne8 := own_grow (N := w5.heap.size) hat8 HNE7.out HB7.out.size; have HB8 := Aside0.mk (HB7.out.grown hg8 HB7.out.size HNE7.out); have HO8 := Aside0.mk ho8; have HNE8 := Aside0.mk hne8; clear ho8 hb8 hg8 hat8 hne8) | (refine Kd.R_append_step k28 (w0 := w5) w.heap.size (by rfl) (.tmp 41) (.tmp 43) 53 28 (.agg #[.int .i64 0, .slice none 0 0]) 32 rfl Tryz.underlying53 infoG rfl (by decide) (by decide) v7 ([] ++ os.take k) x [.int .i64 x.f0, .slice A1 x.f1.length c1] (fun _ => True) (fun j => j < w5.heap.size) rfl rfl ?bP ?bN (fun _ _ => trivial) HO7.out ?bB ?bS ?bL ?_; (case bP => exact k28.M_move (fun j hj => HB7.out.block j hj) HM1.out); (case bN => exact fun j (hj : j < w5.heap.size) => ⟨trivial, fun e => by have := HNE7.out j e.symm; omega⟩); (case bB => exact HB7.out.mono HLE.out); (case bS => exact Nat.le_trans HLE.out HB7.out.size); (case bL => have h1 := HLO.out; first | (simp; done) | (simp; omega)); intro v8 w8 ho8 hb8 hg8 hat8; have hne8 := own_grow (N := w5.heap.size) hat8 HNE7.out HB7.out.size; have HB8 := Aside0.mk (HB7.out.grown hg8 HB7.out.size HNE7.out); have HO8 := Aside0.mk ho8; have HNE8 := Aside0.mk hne8; clear ho8 hb8 hg8 hat8 hne8))
     all_goals
      go_wp2_with ((with_reducible refine gate_builtin (b := .append) (xs := #[.tmp 45, .tmp 48]) rfl ?_); at_builtin; go_must (refine Kd.R_append_rows k28 (Rr := k28.M w5 w.heap.size (fun k => k < w5.heap.size)) (w0 := w5) w.heap.size rfl (.tmp 45) (.tmp 48) 53 28 (.agg #[.int .i64 0, .slice none 0 0]) 32 rfl Tryz.underlying53 infoG rfl (by decide) (by decide) v8 ([] ++ os.take k ++ [x]) (os.drop k) _ _ _ (fun _ => True) (fun j => j < w5.heap.size) rfl rfl HO8.out ?cR ?cK ?cN (fun _ _ => trivial) ?cB ?cS ?cL ?_; (case cR => exact HRD.out.imp_ HB8.out (fun _ _ h => h)); (case cK => exact fun _ _ h => k28.M_move (fun j hj => HB8.out.block j hj) h); (case cN => exact fun j (hj : j < w5.heap.size) => ⟨trivial, fun e => by have := HNE8.out j e.symm; omega⟩); (case cB => exact HB8.out.mono HLE.out); (case cS => exact Nat.le_trans HLE.out HB8.out.size); (case cL => have h1 := HLO.out; first | (simp; done) | (simp; omega)); intro v9 w9 ho9 hb9 hg9 hat9; have hne9 := own_grow (N := w5.heap.size) hat9 HNE8.out HB8.out.size; have HB9 := Aside0.mk (HB8.out.grown hg9 HB8.out.size HNE8.out); have HO9 := Aside0.mk ho9; have HNE9 := Aside0.mk hne9; clear ho9 hb9 hg9 hat9 hne9))
      have ho9 := HO9.out
      rw [List.nil_append, HINS.out, ← HST.out] at ho9
      obtain ⟨A9, c9, rfl⟩ := Kd.R_slice ho9
      have hl9 : (srtP befG (xs.take (kk + 1))).length = kk + 1 := by rw [HL.out, List.length_take]; have := HN.out; omega
      rw [hl9] at ho9 ⊢
      have HO10 := Aside0.mk ho9
      clear ho9
      go_roundg (N - (kk + 1))
      case measure => omega
      case rel =>
       exact ⟨kk + 1, by omega, by omega, by go_num, A9, c9, rfl, ⟨Below.trans BWn.out (HB9.out.mono BWn.out.size)⟩, HO10⟩
  ·have hltz : ¬ (kk : Int) < (N : Int) := by omega
   have : kk = N := by omega
   subst this
   have ho := HO.out
   rw [HN.out, List.take_length] at ho
   have HO' := Aside0.mk ho
   clear ho
   go_wp2
   go_ret
   exact ⟨_, rfl, (by have := HO'.out; rw [← HN.out] at this; exact this), Below.trans HB1.out (BW.out.mono HW1.out)⟩
end Go.Proofs.YtnncjnjfdhbddaaGreat.Z
namespace Go.Proofs.YtnncjnjfdhbddaaGreat.Z
open Go.RowKit Go.Proofs.YtnncjnjfdhbddaaGreatW.PrintWords Go.Proofs.YtnncjnjfdhbddaaGreatW.PrintLast Go.Proofs.YtnncjnjfdhbddaaGreatW.PrintMore
attribute [local go_sem] max2_int min2_int max_two min_two max_three min_three max_four min_four
set_option linter.unusedVariables false
set_option linter.unusedSimpArgs false
def solsG (n : Nat) (l : List S86) : List S28 := (allG n).filter fun g => !(offG n l g)
end Go.Proofs.YtnncjnjfdhbddaaGreat.Z
namespace Go.Proofs.YtnncjnjfdhbddaaGreat.Z
open Go.RowKit Go.Proofs.YtnncjnjfdhbddaaGreatW.PrintWords Go.Proofs.YtnncjnjfdhbddaaGreatW.PrintLast Go.Proofs.YtnncjnjfdhbddaaGreatW.PrintMore
attribute [local go_sem] max2_int min2_int max_two min_two max_three min_three max_four min_four
set_option linter.unusedVariables false
set_option linter.unusedSimpArgs false
theorem insP_nil {α : Type} (lt : α → α → Bool) (x : α) : insP lt [] x = [x] := rfl
theorem insP_cons {α : Type} (lt : α → α → Bool) (y : α) (t : List α) (x : α) : insP lt (y :: t) x = if lt y x = true then y :: insP lt t x else x :: y :: t := by
 unfold insP
 rw [List.takeWhile_cons, List.dropWhile_cons]
 cases lt y x <;> simp
theorem insP_pair {α : Type} {lt : α → α → Bool} {le : α → α → Prop} (h1 : ∀ a b, lt a b = true → le a b) (h2 : ∀ a b, lt a b = false → le b a) (ht : ∀ a b c, le a b → le b c → le a c) (x : α) : ∀ l : List α, l.Pairwise le → (insP lt l x).Pairwise le
 | [], _ => by rw [insP_nil]; exact List.pairwise_singleton _ _
 | y :: t, h => by
  obtain ⟨ha, hb⟩ := List.pairwise_cons.1 h
  rw [insP_cons]
  cases hq : lt y x with
  | true =>
   rw [if_pos rfl]
   refine List.pairwise_cons.2 ⟨fun z hz => ?_, insP_pair h1 h2 ht x t hb⟩
   rcases List.mem_cons.1 ((insP_perm lt t x).mem_iff.1 hz) with rfl | hz
   ·exact h1 _ _ hq
   ·exact ha z hz
  | false =>
   rw [if_neg (by simp)]
   refine List.pairwise_cons.2 ⟨fun z hz => ?_, h⟩
   rcases List.mem_cons.1 hz with rfl | hz
   ·exact h2 _ _ hq
   ·exact ht _ _ _ (h2 _ _ hq) (ha z hz)
theorem srtP_pair {α : Type} {lt : α → α → Bool} {le : α → α → Prop} (h1 : ∀ a b, lt a b = true → le a b) (h2 : ∀ a b, lt a b = false → le b a) (ht : ∀ a b c, le a b → le b c → le a c) (l : List α) : (srtP lt l).Pairwise le := by
 have key : ∀ (l acc : List α), acc.Pairwise le → (l.foldl (insP lt) acc).Pairwise le := by
  intro l
  induction l with
  | nil => intro acc h; exact h
  | cons x t ih => intro acc h; exact ih _ (insP_pair h1 h2 ht x acc h)
 exact key l [] List.Pairwise.nil
theorem leB_of_lt {α : Type} {c : α → α → Int} (h : Cmp c) (a b : α) (h1 : decide (c a b < 0) = true) : leB c a b = true := by
 have h2 := of_decide_eq_true h1
 have h3 := h.anti a b
 have h4 := h.anti b a
 exact decide_eq_true (by omega)
theorem leB_of_ge {α : Type} {c : α → α → Int} (a b : α) (h1 : decide (c a b < 0) = false) : leB c b a = true := decide_eq_true (of_decide_eq_false h1)
theorem srtP_sort {α : Type} {c : α → α → Int} (h : Cmp c) (l : List α) : srtP (fun a b => decide (c a b < 0)) l = sortC c l :=
 sortC_unique h (srtP_perm _ l) (srtP_pair (le := fun a b => leB c a b = true) (fun a b => leB_of_lt h a b) (fun a b => leB_of_ge a b) h.le_trans l)
def lookT : Nat → List Bool → List (List Bool)
 | 0, pre => [pre]
 | d + 1, pre => lookT d (pre ++ [true]) ++ (if mustB pre = true then [] else lookT d (pre ++ [false]))
theorem lookP_T (n : Nat) (clues : List S86) : ∀ d pre, lookP n clues d pre = ((lookT d pre).filter (leafB n clues)).map (gameV n)
 | 0, pre => by
  rw [lookP, lookT, leafL, List.filter_cons, List.filter_nil]
  split <;> rfl
 | d + 1, pre => by
  rw [lookP, lookT, lookP_T n clues d, lookP_T n clues d, List.filter_append, List.map_append]
  split <;> rfl
theorem lookT_tabs : ∀ n, 1 ≤ n → n ≤ 4 → (lookT (2 ^ n) []).Perm ((tabs n).map (bitsB n)) := by
 intro n h1 h4
 have : n = 1 ∨ n = 2 ∨ n = 3 ∨ n = 4 := by omega
 rw [← List.isPerm_iff]
 rcases this with h | h | h | h <;> subst h <;> decide +kernel
theorem leastV_B (n : Nat) (hn : n ≤ 9) (wins : List Bool) (m : Nat) (hm : m < 2 ^ n) : leastV wins m = leastB n wins m := by
 unfold leastV leastB
 congr 1
 rw [Bool.eq_iff_iff, List.all_eq_true, List.all_eq_true]
 constructor
 ·intro h i hi
  cases hb : m.testBit i with
  | false => rfl
  | true =>
   have := h i (List.mem_filter.2 ⟨List.mem_range.2 (by have := List.mem_range.1 hi; omega), hb⟩)
   simpa using this
 ·intro h i hi
  obtain ⟨_, hb⟩ := List.mem_filter.1 hi
  have hin : i < n := by
   rcases Nat.lt_or_ge i n with h | h
   ·exact h
   ·have := Nat.testBit_lt_two_pow (show m < 2 ^ i from Nat.lt_of_lt_of_le hm (Nat.pow_le_pow_right (by decide) h))
    rw [this] at hb; cases hb
  have := h i (List.mem_range.2 hin)
  rw [hb] at this
  simpa using this
theorem game_VT (n t : Nat) (hn : n ≤ 9) : gameV n (bitsB n t) = gameT n t := by
 unfold gameV gameT leastL leastSets
 congr 1
 have e : partS (leastV (bitsB n t)) (bitsB n t).length = partS (leastB n (bitsB n t)) (bitsB n t).length := by
  unfold partS
  congr 1
  refine List.filter_congr fun m hm => ?_
  exact leastV_B n hn _ m (by have := List.mem_range.1 hm; rwa [bitsB_len] at this)
 rw [e]
 exact srtP_sort Cmp.L _
theorem tableOf_perm (n : Nat) {l l' : List (List Int)} (h : l.Perm l') : tableOf n l = tableOf n l' := by
 unfold tableOf
 refine List.map_congr_left fun m _ => ?_
 rw [Bool.eq_iff_iff, List.any_eq_true, List.any_eq_true]
 have := h.map maskN
 constructor
 ·rintro ⟨x, hx, h2⟩; exact ⟨x, this.mem_iff.1 hx, h2⟩
 ·rintro ⟨x, hx, h2⟩; exact ⟨x, this.mem_iff.2 hx, h2⟩
theorem table_back0 : ∀ n, n ≤ 4 → ∀ t ∈ tabs n, tableOf n (partS (leastB n (bitsB n t)) (2 ^ n)) = bitsB n t := by decide +kernel
theorem table_back (n t : Nat) (hn : n ≤ 4) (ht : t ∈ tabs n) : tableOf n (gameT n t).f1 = bitsB n t := by
 show tableOf n (leastSets n (bitsB n t)) = _
 rw [leastSets, tableOf_perm n (sortC_perm cmpL _), bitsB_len]
 exact table_back0 n hn t ht
theorem bits_getD (n t m : Nat) (h : m < 2 ^ n) : (bitsB n t).getD m false = t.testBit m := by
 simp [bitsB, List.getD_eq_getElem?_getD, h]
theorem leaf_tab (n t : Nat) (hn : n ≤ 4) (ht : t ∈ tabs n) (clues : List S86) : leafB n clues (bitsB n t) = (isTab n t && !(offG n clues (gameT n t))) := by
 have hp := Nat.two_pow_pos n
 unfold leafB isTab offG
 rw [table_back n t hn ht, bits_getD n t _ (by omega), bits_getD n t _ (by omega), List.not_any_eq_all_not]
 have e : clues.all (fitsW n (bitsB n t)) = clues.all (fun c => !(neC (toldV n (bitsB n t) c) c)) := rfl
 rw [e]
 cases t.testBit (2 ^ n - 1) <;> cases t.testBit 0 <;> simp
theorem found_perm (n : Nat) (h1 : 1 ≤ n) (hn : n ≤ 4) (clues : List S86) : (foundG n clues).Perm ((rawG n (tabs n)).filter fun g => !(offG n clues g)) := by
 have e1 : foundG n clues = ((lookT (2 ^ n) []).filter (leafB n clues)).map (gameV n) := lookP_T n clues _ _
 have e2 := ((lookT_tabs n h1 hn).filter (leafB n clues)).map (gameV n)
 rw [e1]
 refine e2.trans ?_
 rw [List.filter_map, List.map_map, rawG, List.filter_map, List.filter_filter]
 have e3 : (tabs n).filter (leafB n clues ∘ bitsB n) = (tabs n).filter (fun a => ((fun g => !(offG n clues g)) ∘ gameT n) a && isTab n a) := by
  refine List.filter_congr fun t ht => ?_
  show leafB n clues (bitsB n t) = (!(offG n clues (gameT n t)) && isTab n t)
  rw [leaf_tab n t hn ht, Bool.and_comm]
 rw [e3]
 have e4 : (gameV n ∘ bitsB n) = gameT n := funext fun t => game_VT n t (by omega)
 rw [e4]
theorem rawG_f0 (n : Nat) (l : List Nat) : ∀ x ∈ rawG n l, x = ⟨(n : Int), x.f1⟩ := fun x hx => by
 obtain ⟨t, _, rfl⟩ := List.mem_map.1 hx
 rfl
theorem allG_perm (n : Nat) : (allG n).Perm (rawG n (tabs n)) := by
 have h := (sortC_perm cmpLL ((rawG n (tabs n)).map S28.f1)).map (fun ws => (⟨(n : Int), ws⟩ : S28))
 rw [List.map_map] at h
 have e : (rawG n (tabs n)).map ((fun ws => (⟨(n : Int), ws⟩ : S28)) ∘ S28.f1) = rawG n (tabs n) := by
  conv => rhs; rw [← List.map_id (rawG n (tabs n))]
  exact List.map_congr_left fun x hx => (rawG_f0 n _ x hx).symm
 rw [e] at h
 exact h
theorem allG_sorted (n : Nat) : (allG n).Pairwise fun a b => leB cmpLL a.f1 b.f1 = true := by
 unfold allG
 rw [List.pairwise_map]
 exact sortC_sorted Cmp.LL _
theorem games_eq (n : Int) {l l' : List S28} (hp : l.Perm l') (h1 : l.Pairwise fun a b => leB cmpLL a.f1 b.f1 = true) (h2 : l'.Pairwise fun a b => leB cmpLL a.f1 b.f1 = true) (hf : ∀ x ∈ l, x.f0 = n) : l = l' := by
 refine List.Perm.eq_of_pairwise (fun a b ha hb hab hba => ?_) h1 h2 hp
 have e1 := Cmp.LL.le_anti _ _ hab hba
 have e2 := hf a ha
 have e3 := hf b (hp.mem_iff.2 hb)
 obtain ⟨a0, a1⟩ := a
 obtain ⟨b0, b1⟩ := b
 simp only at e1 e2 e3
 rw [e1, e2, e3]
theorem found_sols (n : Nat) (h1 : 1 ≤ n) (hn : n ≤ 4) (clues : List S86) : srtP befG (foundG n clues) = solsG n clues := by
 have hp : (srtP befG (foundG n clues)).Perm (solsG n clues) :=
  ((srtP_perm befG _).trans (found_perm n h1 hn clues)).trans ((allG_perm n).filter _).symm
 refine games_eq (n : Int) hp ?_ ?_ ?_
 ·refine srtP_pair (lt := befG) (fun a b h => leB_of_lt Cmp.LL a.f1 b.f1 h) (fun a b h => leB_of_ge a.f1 b.f1 h) (fun a b c => Cmp.LL.le_trans a.f1 b.f1 c.f1) _
 ·exact (allG_sorted n).sublist List.filter_sublist
 ·intro x hx
  have h2 := (allG_perm n).mem_iff.1 (List.mem_filter.1 (hp.mem_iff.1 hx)).1
  rw [rawG_f0 n _ x h2]
end Go.Proofs.YtnncjnjfdhbddaaGreat.Z
namespace Go.Proofs.YtnncjnjfdhbddaaGreat.Z
open Go.RowKit Go.Proofs.YtnncjnjfdhbddaaGreatW.PrintWords Go.Proofs.YtnncjnjfdhbddaaGreatW.PrintLast Go.Proofs.YtnncjnjfdhbddaaGreatW.PrintMore
attribute [local go_sem] max2_int min2_int max_two min_two max_three min_three max_four min_four
set_option linter.unusedVariables false
set_option linter.unusedSimpArgs false
def spec_l1In.f (a0 : Int) (a1 : Int) (a2 : Int) : Option (Bool) := if a0 ≥ a1 then (some (decide (a0 ≤ a2))) else (some false)
set_option maxHeartbeats 8000000 in
set_option maxRecDepth 100000 in
theorem spec_l1In.calls (a0 : Int) (a1 : Int) (a2 : Int) (r : Bool) (w : World) (h : spec_l1In.f a0 a1 a2 = some r) :
  Calls Tryz.prog 125 #[.int .i64 a0, .int .i64 a1, .int .i64 a2] w fun e w' => e = .returned (.bool r) ∧ Drawn0 w w' := by
 have H : (if a0 ≥ a1 then (some (decide (a0 ≤ a2))) else (some false)) = some r := h
 clear h
 by_cases c4 : a0 ≥ a1
 ·rw [if_pos c4] at H
  have c4b0 : decide (a1 ≤ a0) = true := decide_eq_true c4
  clear c4
  obtain rfl := Option.some.inj H
  go_enter Tryz.func125, Tryz.ntmps125
  go_wp2
  go_ret
  exact ⟨by first | rfl | (simp; done) | (simp [*]; done), by repeat (first | exact Drawn0.refl _ | apply Drawn0.step)⟩
 ·rw [if_neg c4] at H
  have c4b0 : decide (a1 ≤ a0) = false := decide_eq_false c4
  clear c4
  obtain rfl := Option.some.inj H
  go_enter Tryz.func125, Tryz.ntmps125
  go_wp2
  go_ret
  exact ⟨by first | rfl | (simp; done) | (simp [*]; done), by repeat (first | exact Drawn0.refl _ | apply Drawn0.step)⟩
end Go.Proofs.YtnncjnjfdhbddaaGreat.Z
namespace Go.Proofs.YtnncjnjfdhbddaaGreat.Z
open Go.RowKit Go.Proofs.YtnncjnjfdhbddaaGreatW.PrintWords Go.Proofs.YtnncjnjfdhbddaaGreatW.PrintLast Go.Proofs.YtnncjnjfdhbddaaGreatW.PrintMore
attribute [local go_sem] max2_int min2_int max_two min_two max_three min_three max_four min_four
set_option linter.unusedVariables false
set_option linter.unusedSimpArgs false
def spec_pzMembers.f (a0 : Int) : Option (Bool) := (spec_l1In.f a0 1 4).bind fun t190 => (some t190)
set_option maxHeartbeats 8000000 in
set_option maxRecDepth 100000 in
theorem spec_pzMembers.calls (a0 : Int) (r : Bool) (w : World) (h : spec_pzMembers.f a0 = some r) :
  Calls Tryz.prog 81 #[.int .i64 a0] w fun e w' => e = .returned (.bool r) ∧ Drawn0 w w' := by
 have H : ((spec_l1In.f a0 1 4).bind fun t190 => (some t190)) = some r := h
 clear h
 replace H := Option.bind_eq_some_iff.mp H
 obtain ⟨t190, A20, H⟩ := H
 replace H : (some t190) = some r := H
 have A2 := Aside0.mk A20
 clear A20
 obtain rfl := Option.some.inj H
 go_enter Tryz.func81, Tryz.ntmps81
 go_wp2_with (first | ((with_reducible refine gate_callee (f := 125) rfl ?_); refine goesL_ (some 4) rfl rfl Tryz.func125 (by kernel_rfl) rfl #[.int .i64 a0, .int .i64 1, .int .i64 4] rfl (by (try simp only [List.map_toArray, List.map_cons, List.map_nil]); first | done | rfl | (simp only [List.length_drop, List.length_take]; rfl)) ?_; (with_reducible refine (spec_l1In.calls a0 1 4 t190 _ A2.out).mono ?_); rintro e w' ⟨rfl, ⟨nd, rfl⟩⟩; refine ⟨_, rfl, ?_⟩))
 go_ret
 exact ⟨by first | rfl | (simp; done) | (simp [*]; done), by repeat (first | exact Drawn0.refl _ | apply Drawn0.step)⟩
end Go.Proofs.YtnncjnjfdhbddaaGreat.Z
namespace Go.Proofs.YtnncjnjfdhbddaaGreat.Z
open Go.RowKit Go.Proofs.YtnncjnjfdhbddaaGreatW.PrintWords Go.Proofs.YtnncjnjfdhbddaaGreatW.PrintLast Go.Proofs.YtnncjnjfdhbddaaGreatW.PrintMore
attribute [local go_sem] max2_int min2_int max_two min_two max_three min_three max_four min_four
set_option linter.unusedVariables false
set_option linter.unusedSimpArgs false
def spec_voAll.f (a0 : Int) : Option (Int) := if 0 ≤ a0 then (some (wrap64 ((shl .i64 1 a0) - 1))) else (none)
set_option maxHeartbeats 8000000 in
set_option maxRecDepth 100000 in
theorem spec_voAll.calls (a0 : Int) (r : Int) (w : World) (h : spec_voAll.f a0 = some r) :
  Calls Tryz.prog 126 #[.int .i64 a0] w fun e w' => e = .returned (.int .i64 r) ∧ Drawn0 w w' := by
 have H : (if 0 ≤ a0 then (some (wrap64 ((shl .i64 1 a0) - 1))) else (none)) = some r := h
 clear h
 by_cases c2 : 0 ≤ a0
 ·rw [if_pos c2] at H
  have c2b0 := eq_true c2
  have c2b1 : decide (0 ≤ a0) = true := decide_eq_true c2
  clear c2
  obtain ⟨ji3, hji3⟩ : ∃ j_ : Int, (shl .i64 1 a0) = j_ := ⟨_, rfl⟩
  replace H : (some (wrap64 ((ji3) - 1))) = some r := by first | (rw [hji3] at H; exact H) | (simp only [hji3] at H ⊢; exact H)
  have hji3_ : (IntKind.i64.wrap (1 * 2 ^ min a0.toNat 64)) = ji3 := hji3
  have hji3z : a0 ≤ 64 → (IntKind.i64.wrap (1 * 2 ^ a0.toNat)) = ji3 := shl_small hji3
  have hji3u : (IntKind.i64.wrap (2 ^ min a0.toNat 64)) = ji3 := by have h_ := hji3_; rw [Int.one_mul] at h_; exact h_
  have hji3v : a0 ≤ 64 → (IntKind.i64.wrap (2 ^ a0.toNat)) = ji3 := fun hle_ => by have h_ := hji3z hle_; rw [Int.one_mul] at h_; exact h_
  have hji3y : (wrap64 (1 * 2 ^ min a0.toNat 64)) = ji3 := (i64_w _).symm.trans hji3_
  have hji3x : a0 ≤ 64 → (wrap64 (1 * 2 ^ a0.toNat)) = ji3 := fun h_ => (i64_w _).symm.trans (hji3z h_)
  obtain rfl := Option.some.inj H
  go_enter Tryz.func126, Tryz.ntmps126
  go_wp2
  go_ret
  exact ⟨by first | rfl | (simp; done) | (simp only [← hji3] <;> (first | rfl | simp)) | (simp [*]; done), by repeat (first | exact Drawn0.refl _ | apply Drawn0.step)⟩
 ·rw [if_neg c2] at H
  exact absurd H (by simp)
end Go.Proofs.YtnncjnjfdhbddaaGreat.Z
namespace Go.Proofs.YtnncjnjfdhbddaaGreat.Z
open Go.RowKit Go.Proofs.YtnncjnjfdhbddaaGreatW.PrintWords Go.Proofs.YtnncjnjfdhbddaaGreatW.PrintLast Go.Proofs.YtnncjnjfdhbddaaGreatW.PrintMore
attribute [local go_sem] max2_int min2_int max_two min_two max_three min_three max_four min_four
set_option linter.unusedVariables false
set_option linter.unusedSimpArgs false
theorem voAll_f (n : Int) (h1 : 1 ≤ n) (h4 : n ≤ 4) : spec_voAll.f n = some (2 ^ n.toNat - 1) := by
 have : n = 1 ∨ n = 2 ∨ n = 3 ∨ n = 4 := by omega
 rcases this with h | h | h | h <;> subst h <;> (simp only [spec_voAll.f]; decide +kernel)
theorem pzClue_in (x lo hi : Int) (q : Bool) (h : inI x lo hi = q) (w : World) : Calls Tryz.prog 125 #[.int .i64 x, .int .i64 lo, .int .i64 hi] w fun e w' => e = .returned (.bool q) ∧ w' = w := by
 subst h
 by_cases h1 : lo ≤ x
 ·have e : inI x lo hi = decide (x ≤ hi) := by simp [inI, h1]
  have hd : decide (lo ≤ x) = true := decide_eq_true h1
  rw [e]
  clear e h1
  go_enter Tryz.func125, Tryz.ntmps125
  go_wp2
  go_ret
  exact ⟨rfl, rfl⟩
 ·have e : inI x lo hi = false := by simp [inI, h1]
  have hd : decide (lo ≤ x) = false := decide_eq_false h1
  rw [e]
  clear e h1
  go_enter Tryz.func125, Tryz.ntmps125
  go_wp2
  go_ret
  exact ⟨rfl, rfl⟩
set_option maxRecDepth 100000 in
set_option maxHeartbeats 4000000 in
theorem pzClue_0 (n a b : Int) (hn : 1 ≤ n) (hn4 : n ≤ 4) (w : World) : Calls Tryz.prog 82 #[.int .i64 n, .agg #[.int .i64 0, .int .i64 a, .int .i64 b]] w fun e w' => e = .returned (.bool (inI a 0 (2 ^ n.toNat - 1) && inI b 0 1)) ∧ Below w.heap.size w w' := by
 have hu86 := Tryz.underlying86
 have VA := Aside0.mk (fun w => spec_voAll.calls n (2 ^ n.toNat - 1) w (voAll_f n hn hn4))
 have HF := Aside0.mk ((Below.refl w.heap.size w).alloc (Nat.le_refl _) (.cells #[.int .i64 0, .int .i64 a, .int .i64 b] 86))
 obtain ⟨q1, h1⟩ : ∃ q, inI a 0 (2 ^ n.toNat - 1) = q := ⟨_, rfl⟩
 obtain ⟨q2, h2⟩ : ∃ q, inI b 0 1 = q := ⟨_, rfl⟩
 rw [h1, h2]
 have W1 := Aside0.mk (fun w => pzClue_in a 0 (2 ^ n.toNat - 1) q1 h1 w)
 have W2 := Aside0.mk (fun w => pzClue_in b 0 1 q2 h2 w)
 generalize (2 : Int) ^ n.toNat - 1 = hi at *
 clear h1 h2
 cases q1 <;> (go_enter Tryz.func82, Tryz.ntmps82; go_wp2; go_quiet ((first | (go_at_call 125; (with_reducible refine (W1.out _).mono ?_); rintro e w' ⟨rfl, rfl⟩; exact ⟨rfl, _, rfl⟩) | (go_at_call 125; (with_reducible refine (W2.out _).mono ?_); rintro e w' ⟨rfl, rfl⟩; exact ⟨rfl, _, rfl⟩) | (go_at_call 126; (with_reducible refine (VA.out _).mono ?_); rintro e w' ⟨rfl, hd⟩; obtain ⟨m, rfl⟩ := hd; exact ⟨rfl, _, World.drewN_drewN ..⟩))); go_wp2; go_ret; exact ⟨rfl, by (repeat (first | apply pw_below_drewN | apply below_drew)); exact HF.out⟩)
set_option maxRecDepth 100000 in
set_option maxHeartbeats 4000000 in
theorem pzClue_1 (n a b : Int) (hn : 1 ≤ n) (hn4 : n ≤ 4) (w : World) : Calls Tryz.prog 82 #[.int .i64 n, .agg #[.int .i64 1, .int .i64 a, .int .i64 b]] w fun e w' => e = .returned (.bool (inI a 1 15 && (b == 0))) ∧ Below w.heap.size w w' := by
 have hu86 := Tryz.underlying86
 have HF := Aside0.mk ((Below.refl w.heap.size w).alloc (Nat.le_refl _) (.cells #[.int .i64 1, .int .i64 a, .int .i64 b] 86))
 obtain ⟨q1, h1⟩ : ∃ q, inI a 1 15 = q := ⟨_, rfl⟩
 rw [h1]
 have W1 := Aside0.mk (fun w => pzClue_in a 1 15 q1 h1 w)
 clear h1
 cases q1 <;> (go_enter Tryz.func82, Tryz.ntmps82; go_wp2_with (first | (go_at_call 125; with_reducible refine (W1.out _).mono ?_; rintro e w' ⟨rfl, rfl⟩)); go_ret; exact ⟨rfl, by (repeat (first | apply pw_below_drewN | apply below_drew)); exact HF.out⟩)
set_option maxRecDepth 100000 in
set_option maxHeartbeats 4000000 in
theorem pzClue_2 (n a b : Int) (hn : 1 ≤ n) (hn4 : n ≤ 4) (w : World) : Calls Tryz.prog 82 #[.int .i64 n, .agg #[.int .i64 2, .int .i64 a, .int .i64 b]] w fun e w' => e = .returned (.bool (inI a 0 (n - 1) && inI b 0 1)) ∧ Below w.heap.size w w' := by
 have hu86 := Tryz.underlying86
 have HF := Aside0.mk ((Below.refl w.heap.size w).alloc (Nat.le_refl _) (.cells #[.int .i64 2, .int .i64 a, .int .i64 b] 86))
 obtain ⟨q1, h1⟩ : ∃ q, inI a 0 (n - 1) = q := ⟨_, rfl⟩
 obtain ⟨q2, h2⟩ : ∃ q, inI b 0 1 = q := ⟨_, rfl⟩
 rw [h1, h2]
 have W1 := Aside0.mk (fun w => pzClue_in a 0 (n - 1) q1 h1 w)
 have W2 := Aside0.mk (fun w => pzClue_in b 0 1 q2 h2 w)
 clear h1 h2
 cases q1 <;> (go_enter Tryz.func82, Tryz.ntmps82; go_wp2_with (first | (go_at_call 125; with_reducible refine (W1.out _).mono ?_; rintro e w' ⟨rfl, rfl⟩) | (go_at_call 125; with_reducible refine (W2.out _).mono ?_; rintro e w' ⟨rfl, rfl⟩)); go_ret; exact ⟨rfl, by (repeat (first | apply pw_below_drewN | apply below_drew)); exact HF.out⟩)
set_option maxRecDepth 100000 in
set_option maxHeartbeats 4000000 in
theorem pzClue_3 (n a b : Int) (hn : 1 ≤ n) (hn4 : n ≤ 4) (w : World) : Calls Tryz.prog 82 #[.int .i64 n, .agg #[.int .i64 3, .int .i64 a, .int .i64 b]] w fun e w' => e = .returned (.bool (inI a 0 (n - 1) && inI b 0 8)) ∧ Below w.heap.size w w' := by
 have hu86 := Tryz.underlying86
 have HF := Aside0.mk ((Below.refl w.heap.size w).alloc (Nat.le_refl _) (.cells #[.int .i64 3, .int .i64 a, .int .i64 b] 86))
 obtain ⟨q1, h1⟩ : ∃ q, inI a 0 (n - 1) = q := ⟨_, rfl⟩
 obtain ⟨q2, h2⟩ : ∃ q, inI b 0 8 = q := ⟨_, rfl⟩
 rw [h1, h2]
 have W1 := Aside0.mk (fun w => pzClue_in a 0 (n - 1) q1 h1 w)
 have W2 := Aside0.mk (fun w => pzClue_in b 0 8 q2 h2 w)
 clear h1 h2
 cases q1 <;> (go_enter Tryz.func82, Tryz.ntmps82; go_wp2_with (first | (go_at_call 125; with_reducible refine (W1.out _).mono ?_; rintro e w' ⟨rfl, rfl⟩) | (go_at_call 125; with_reducible refine (W2.out _).mono ?_; rintro e w' ⟨rfl, rfl⟩)); go_ret; exact ⟨rfl, by (repeat (first | apply pw_below_drewN | apply below_drew)); exact HF.out⟩)
set_option maxRecDepth 100000 in
set_option maxHeartbeats 4000000 in
theorem pzClue_4 (n a b : Int) (hn : 1 ≤ n) (hn4 : n ≤ 4) (w : World) : Calls Tryz.prog 82 #[.int .i64 n, .agg #[.int .i64 4, .int .i64 a, .int .i64 b]] w fun e w' => e = .returned (.bool (inI a 0 1 && (b == 0))) ∧ Below w.heap.size w w' := by
 have hu86 := Tryz.underlying86
 have HF := Aside0.mk ((Below.refl w.heap.size w).alloc (Nat.le_refl _) (.cells #[.int .i64 4, .int .i64 a, .int .i64 b] 86))
 obtain ⟨q1, h1⟩ : ∃ q, inI a 0 1 = q := ⟨_, rfl⟩
 rw [h1]
 have W1 := Aside0.mk (fun w => pzClue_in a 0 1 q1 h1 w)
 clear h1
 cases q1 <;> (go_enter Tryz.func82, Tryz.ntmps82; go_wp2_with (first | (go_at_call 125; with_reducible refine (W1.out _).mono ?_; rintro e w' ⟨rfl, rfl⟩)); go_ret; exact ⟨rfl, by (repeat (first | apply pw_below_drewN | apply below_drew)); exact HF.out⟩)
set_option maxRecDepth 100000 in
set_option maxHeartbeats 4000000 in
theorem pzClue_5 (n a b : Int) (hn : 1 ≤ n) (hn4 : n ≤ 4) (w : World) : Calls Tryz.prog 82 #[.int .i64 n, .agg #[.int .i64 5, .int .i64 a, .int .i64 b]] w fun e w' => e = .returned (.bool (inI a 0 1 && (b == 0))) ∧ Below w.heap.size w w' := by
 have hu86 := Tryz.underlying86
 have HF := Aside0.mk ((Below.refl w.heap.size w).alloc (Nat.le_refl _) (.cells #[.int .i64 5, .int .i64 a, .int .i64 b] 86))
 obtain ⟨q1, h1⟩ : ∃ q, inI a 0 1 = q := ⟨_, rfl⟩
 rw [h1]
 have W1 := Aside0.mk (fun w => pzClue_in a 0 1 q1 h1 w)
 clear h1
 cases q1 <;> (go_enter Tryz.func82, Tryz.ntmps82; go_wp2_with (first | (go_at_call 125; with_reducible refine (W1.out _).mono ?_; rintro e w' ⟨rfl, rfl⟩)); go_ret; exact ⟨rfl, by (repeat (first | apply pw_below_drewN | apply below_drew)); exact HF.out⟩)
set_option maxRecDepth 100000 in
set_option maxHeartbeats 4000000 in
theorem pzClue_x (n k a b : Int) (_hn : True) (h0 : (k == 0) = false) (h1 : (k == 1) = false) (h2 : (k == 2) = false) (h3 : (k == 3) = false) (h4 : (k == 4) = false) (h5 : (k == 5) = false) (w : World) : Calls Tryz.prog 82 #[.int .i64 n, .agg #[.int .i64 k, .int .i64 a, .int .i64 b]] w fun e w' => e = .returned (.bool false) ∧ Below w.heap.size w w' := by
 have hu86 := Tryz.underlying86
 have HF := Aside0.mk ((Below.refl w.heap.size w).alloc (Nat.le_refl _) (.cells #[.int .i64 k, .int .i64 a, .int .i64 b] 86))
 go_enter Tryz.func82, Tryz.ntmps82
 go_wp2
 go_ret
 exact ⟨rfl, by (repeat (first | apply pw_below_drewN | apply below_drew)); exact HF.out⟩
theorem pzClue_any (n : Int) (hn : inI n 1 4 = true) (c : S86) (w : World) : Calls Tryz.prog 82 #[.int .i64 n, .agg #[.int .i64 c.f0, .int .i64 c.f1, .int .i64 c.f2]] w fun e w' => e = .returned (.bool (clueB n c)) ∧ Below w.heap.size w w' := by
 have hi := of_decide_eq_true hn
 obtain ⟨k, a, b⟩ := c
 simp only [clueB]
 by_cases h0 : k = 0
 ·subst h0
  simp only [if_true, if_false]
  exact pzClue_0 n a b hi.1 hi.2 w
 by_cases h1 : k = 1
 ·subst h1
  simp only [show ¬ (1 : Int) = 0 by decide, if_true, if_false]
  exact pzClue_1 n a b hi.1 hi.2 w
 by_cases h2 : k = 2
 ·subst h2
  simp only [show ¬ (2 : Int) = 0 by decide, show ¬ (2 : Int) = 1 by decide, if_true, if_false]
  exact pzClue_2 n a b hi.1 hi.2 w
 by_cases h3 : k = 3
 ·subst h3
  simp only [show ¬ (3 : Int) = 0 by decide, show ¬ (3 : Int) = 1 by decide, show ¬ (3 : Int) = 2 by decide, if_true, if_false]
  exact pzClue_3 n a b hi.1 hi.2 w
 by_cases h4 : k = 4
 ·subst h4
  simp only [show ¬ (4 : Int) = 0 by decide, show ¬ (4 : Int) = 1 by decide, show ¬ (4 : Int) = 2 by decide, show ¬ (4 : Int) = 3 by decide, true_or, if_true, if_false]
  exact pzClue_4 n a b hi.1 hi.2 w
 by_cases h5 : k = 5
 ·subst h5
  simp only [show ¬ (5 : Int) = 0 by decide, show ¬ (5 : Int) = 1 by decide, show ¬ (5 : Int) = 2 by decide, show ¬ (5 : Int) = 3 by decide, show ¬ (5 : Int) = 4 by decide, or_true, if_true, if_false]
  exact pzClue_5 n a b hi.1 hi.2 w
 ·simp only [h0, h1, h2, h3, h4, h5, if_false, or_self]
  exact pzClue_x n k a b trivial (beq_eq_false_iff_ne.mpr h0) (beq_eq_false_iff_ne.mpr h1) (beq_eq_false_iff_ne.mpr h2) (beq_eq_false_iff_ne.mpr h3) (beq_eq_false_iff_ne.mpr h4) (beq_eq_false_iff_ne.mpr h5) w
def spec_pzClue.f (a0 : Int) (a1_0 : Int) (a1_1 : Int) (a1_2 : Int) : Option (Bool) := if inI a0 1 4 = true then some (clueB a0 ⟨a1_0, a1_1, a1_2⟩) else none
theorem spec_pzClue.calls (a0 : Int) (a1_0 : Int) (a1_1 : Int) (a1_2 : Int) (r : Bool) (w : World) (h : spec_pzClue.f a0 a1_0 a1_1 a1_2 = some r) :
  Calls Tryz.prog 82 #[.int .i64 a0, .agg #[.int .i64 a1_0, .int .i64 a1_1, .int .i64 a1_2]] w fun e w' => e = .returned (.bool r) ∧ Below w.heap.size w w' := by
 unfold spec_pzClue.f at h
 split at h
 ·rename_i hn
  obtain rfl := Option.some.inj h
  exact pzClue_any a0 hn ⟨a1_0, a1_1, a1_2⟩ w
 ·cases h
end Go.Proofs.YtnncjnjfdhbddaaGreat.Z
namespace Go.Proofs.YtnncjnjfdhbddaaGreat.Z
open Go.RowKit Go.Proofs.YtnncjnjfdhbddaaGreatW.PrintWords Go.Proofs.YtnncjnjfdhbddaaGreatW.PrintLast Go.Proofs.YtnncjnjfdhbddaaGreatW.PrintMore
attribute [local go_sem] max2_int min2_int max_two min_two max_three min_three max_four min_four
set_option linter.unusedVariables false
set_option linter.unusedSimpArgs false
mutual
def spec_pzGood.j0 : Nat → Bool → Int → List (S86) → Option (Bool)
 | 0, _, _, _ => none
 | k + 1, x14, x192000, x192001 => if x14 = true then (some false) else (spec_pzGood.l0 k x192001 (x192001.length : Int) 0 x192000 x192001)
def spec_pzGood.l0 : Nat → List (S86) → Int → Int → Int → List (S86) → Option (Bool)
 | 0, _, _, _, _, _ => none
 | k + 1, x16, x17, x18, x192000, x192001 => if x18 < x17 then (if 0 ≤ x18 then (if x18 < (x16.length : Int) then ((spec_pzClue.f x192000 ((rd_T86 x16 x18).f0) ((rd_T86 x16 x18).f1) ((rd_T86 x16 x18).f2)).bind fun t195 => (if t195 = true then (spec_pzGood.l0 k x16 x17 (wrap64 (x18 + 1)) x192000 x192001) else (some false))) else (none)) else (none)) else (some true)
end
def spec_pzGood.f (k : Nat) (a0_0 : Int) (l0_1 : List (S86)) : Option (Bool) := (spec_pzMembers.f a0_0).bind fun t192 => (if t192 = true then (spec_pzGood.j0 k (decide ((l0_1.length : Int) > 8)) a0_0 l0_1) else (spec_pzGood.j0 k true a0_0 l0_1))
set_option maxHeartbeats 8000000 in
set_option maxRecDepth 100000 in
theorem spec_pzGood.calls (k : Nat) (a0_0 : Int) (A0_1 : Option Addr) (c0_1 : Nat) (l0_1 : List (S86)) (r : Bool) (w : World) (hr0_1 : Kd.C k86 w A0_1 l0_1.length l0_1) (hc0_1 : l0_1.length ≤ c0_1) (h : spec_pzGood.f k a0_0 l0_1 = some r) :
  Calls Tryz.prog 51 #[.agg #[.int .i64 a0_0, .slice A0_1 l0_1.length c0_1]] w fun e w' => e = .returned (.bool r) ∧ Below w.heap.size w w' := by
 have hu41 := Tryz.underlying41
 have hu86 := Tryz.underlying86
 have HR0_1 := Aside0.mk hr0_1
 have HC0_1 := Aside0.mk hc0_1
 clear hr0_1 hc0_1
 have HB := Aside0.mk (Below.refl w.heap.size w)
 have H : ((spec_pzMembers.f a0_0).bind fun t192 => (if t192 = true then (spec_pzGood.j0 k (decide ((l0_1.length : Int) > 8)) a0_0 l0_1) else (spec_pzGood.j0 k true a0_0 l0_1))) = some r := h
 clear h
 have HC2 := Aside0.mk H
 clear H
 go_enter Tryz.func51, Tryz.ntmps51
 go_upto_region 1 with (first | ((with_reducible refine gate_dst (N := 1) rfl ?_); (try (refine gate_guard (by rfl) ?_; dsimp only)); refine box_event ?hg (N := 1) ?hd (cs := #[.int .i64 a0_0, .slice A0_1 l0_1.length c0_1]) (t := 41) ?hr ?_; (case hd => rfl); (case hg => rfl); (case hr => first | (go_simp; done) | (go_simp; rfl)); intro gb191 hg w3 hbox hb; have n0_ := Aside0.mk (below_step (by repeat (first | (with_reducible first | exact HB.out | apply below_alloc | apply pw_below_drewN | apply below_drew1) | exact HB.out)) hb); have n1_ := Aside0.mk (hbox); have n2_ := Aside0.mk ((by rw [hg]; exact (below_size (by repeat (first | (with_reducible first | exact HB.out | apply below_alloc | apply pw_below_drewN | apply below_drew1) | exact HB.out))) : w.heap.size ≤ gb191)); have n3_ := Aside0.mk ((by rw [hg]; exact (below_size (by repeat (first | (with_reducible first | exact HB.out | apply below_alloc | apply pw_below_drewN | apply below_drew1) | exact HB.out))) : w.heap.size ≤ gb191)); clear HB; have HB := n0_; have BK191 := n1_; have GW191 := n2_; have GE191 := n3_; clear n0_ n1_ n2_ n3_; clear hb hbox hg))
 (try simp only [Act.put, List.setIfInBounds_toArray, List.set_cons_zero, List.set_cons_succ])
 go_cut [14] (fun v14 wc => ∃ (kq : Nat) (x14_1 : Bool), v14 = .bool x14_1 ∧ Aside0 (spec_pzGood.j0 kq x14_1 a0_0 l0_1 = some r) ∧ Aside0 (kq ≤ k) ∧ Aside0 (wc.heap[gb191]? = some (.cells #[.int .i64 a0_0, (.slice A0_1 l0_1.length c0_1)] 41 (0, 0))) ∧ Aside0 (Below w.heap.size w wc))
 case first =>
  have H := HC2.out
  clear HC2
  replace H := Option.bind_eq_some_iff.mp H
  obtain ⟨t192, A40, H⟩ := H
  replace H : (if t192 = true then (spec_pzGood.j0 k (decide ((l0_1.length : Int) > 8)) a0_0 l0_1) else (spec_pzGood.j0 k true a0_0 l0_1)) = some r := H
  have A4 := Aside0.mk A40
  clear A40
  by_cases c5 : t192 = true
  ·subst c5
   have H1 : (spec_pzGood.j0 k (decide ((l0_1.length : Int) > 8)) a0_0 l0_1) = some r := by rw [if_pos rfl] at H; exact H
   clear H
   have H := H1
   clear H1
   have H' := Aside0.mk H
   clear H
   have hcz6_0 : w3.cell? ⟨gb191, 0, none⟩ = some (.int .i64 a0_0) := (blk_cell BK191.out 0).trans rfl
   have hcz6_1 : w3.cell? ⟨gb191, 1, none⟩ = some (.slice A0_1 l0_1.length c0_1) := (blk_cell BK191.out 1).trans rfl
   have hfz6_0 := blk_frozen BK191.out 0
   have hfz6_1 := blk_frozen BK191.out 1
   go_wp2_with (first | ((with_reducible refine gate_callee (f := 81) rfl ?_); refine goesL_ (some 7) rfl rfl Tryz.func81 (by kernel_rfl) rfl #[.int .i64 a0_0] rfl (by (try simp only [List.map_toArray, List.map_cons, List.map_nil]); first | done | rfl | (simp only [List.length_drop, List.length_take]; rfl)) ?_; (with_reducible refine (spec_pzMembers.calls a0_0 true _ A4.out).mono ?_); rintro e w' ⟨rfl, ⟨nd, rfl⟩⟩; refine ⟨_, rfl, ?_⟩))
   go_meet
   case rel => exact ⟨_, (decide ((l0_1.length : Int) > 8)), (by first | rfl | (simp; done) | (simp [*]; done)), H', ⟨by first | omega | exact Nat.le_refl _⟩, ⟨by (with_reducible repeat (first | refine blk_drewN ?_ _ | refine blk_drew ?_ | refine blk_alloc ?_ _)); exact BK191.out⟩, ⟨by repeat (first | (with_reducible first | exact HB.out | apply below_alloc | apply pw_below_drewN | apply below_drew1 | refine below_set ?_ GE191.out) | exact HB.out)⟩⟩
  ·replace c5 := Bool.eq_false_iff.mpr c5
   subst c5
   have H1 : (spec_pzGood.j0 k true a0_0 l0_1) = some r := by rw [if_neg (show ¬ (false = true) by decide)] at H; exact H
   clear H
   have H := H1
   clear H1
   have H' := Aside0.mk H
   clear H
   have hcz7_0 : w3.cell? ⟨gb191, 0, none⟩ = some (.int .i64 a0_0) := (blk_cell BK191.out 0).trans rfl
   have hcz7_1 : w3.cell? ⟨gb191, 1, none⟩ = some (.slice A0_1 l0_1.length c0_1) := (blk_cell BK191.out 1).trans rfl
   have hfz7_0 := blk_frozen BK191.out 0
   have hfz7_1 := blk_frozen BK191.out 1
   go_wp2_with (first | ((with_reducible refine gate_callee (f := 81) rfl ?_); refine goesL_ (some 7) rfl rfl Tryz.func81 (by kernel_rfl) rfl #[.int .i64 a0_0] rfl (by (try simp only [List.map_toArray, List.map_cons, List.map_nil]); first | done | rfl | (simp only [List.length_drop, List.length_take]; rfl)) ?_; (with_reducible refine (spec_pzMembers.calls a0_0 false _ A4.out).mono ?_); rintro e w' ⟨rfl, ⟨nd, rfl⟩⟩; refine ⟨_, rfl, ?_⟩))
   go_meet
   case rel => exact ⟨_, (true), (by first | rfl | (simp; done) | (simp [*]; done)), H', ⟨by first | omega | exact Nat.le_refl _⟩, ⟨by (with_reducible repeat (first | refine blk_drewN ?_ _ | refine blk_drew ?_ | refine blk_alloc ?_ _)); exact BK191.out⟩, ⟨by repeat (first | (with_reducible first | exact HB.out | apply below_alloc | apply pw_below_drewN | apply below_drew1 | refine below_set ?_ GE191.out) | exact HB.out)⟩⟩
 case rest =>
  clear HC2
  try clear p2
  try clear c5
  try clear hcz6_0
  try clear hcz6_1
  try clear hcz7_0
  try clear hcz7_1
  try clear hfz6_0
  try clear hfz6_1
  try clear hfz7_0
  try clear hfz7_1
  obtain ⟨kq, x14_1, rfl, HA, HJ1, BK191, HB⟩ := hcut
  cases kq with
  | zero => exact absurd HA.out (by simp [spec_pzGood.j0])
  | succ kj1 =>
   have H := HA.out
   clear HA
   simp only [spec_pzGood.j0] at H
   by_cases c8 : x14_1 = true
   ·subst c8
    have H1 : (some false) = some r := by rw [if_pos rfl] at H; exact H
    clear H
    have H := H1
    clear H1
    obtain rfl := Option.some.inj H
    go_wp2
    go_ret
    exact ⟨by first | rfl | (simp [errW_none, errW_some] <;> rfl) | (simp [*, errW_none, errW_some] <;> rfl), by repeat (first | (with_reducible first | exact HB.out | apply below_alloc | apply pw_below_drewN | apply below_drew1 | refine below_set ?_ GE191.out) | exact HB.out)⟩
   ·replace c8 := Bool.eq_false_iff.mpr c8
    subst c8
    have H1 : (spec_pzGood.l0 kj1 l0_1 (l0_1.length : Int) 0 a0_0 l0_1) = some r := by rw [if_neg (show ¬ (false = true) by decide)] at H; exact H
    clear H
    have H := H1
    clear H1
    have H' := Aside0.mk H
    clear H
    have hcz9_0 : wc.cell? ⟨gb191, 0, none⟩ = some (.int .i64 a0_0) := (blk_cell BK191.out 0).trans rfl
    have hcz9_1 : wc.cell? ⟨gb191, 1, none⟩ = some (.slice A0_1 l0_1.length c0_1) := (blk_cell BK191.out 1).trans rfl
    have hfz9_0 := blk_frozen BK191.out 0
    have hfz9_1 := blk_frozen BK191.out 1
    go_wp2
    go_loopg [18] kj1 (fun kq v18 w' => ∃ (x18_2 : Int), v18 = .int .i64 x18_2 ∧ Aside0 (spec_pzGood.l0 kq l0_1 (l0_1.length : Int) x18_2 a0_0 l0_1 = some r) ∧ Aside0 (kq ≤ kj1) ∧ Aside0 (w'.heap[gb191]? = some (.cells #[.int .i64 a0_0, (.slice A0_1 l0_1.length c0_1)] 41 (0, 0))) ∧ Aside0 (Below w.heap.size w w'))
    case atStart => exact ⟨(0), (by first | rfl | (simp; done) | (simp [*]; done)), H', ⟨Nat.le_refl _⟩, ⟨by (with_reducible repeat (first | refine blk_drewN ?_ _ | refine blk_drew ?_ | refine blk_alloc ?_ _)); exact BK191.out⟩, ⟨by repeat (first | (with_reducible first | exact HB.out | apply below_alloc | apply pw_below_drewN | apply below_drew1 | refine below_set ?_ GE191.out) | exact HB.out)⟩⟩
    case round =>
     clear H'
     try clear p2
     try clear c5
     try clear c8
     try clear hcz6_0
     try clear hcz6_1
     try clear hcz7_0
     try clear hcz7_1
     try clear hcz9_0
     try clear hcz9_1
     try clear hfz6_0
     try clear hfz6_1
     try clear hfz7_0
     try clear hfz7_1
     try clear hfz9_0
     try clear hfz9_1
     try clear p2
     obtain ⟨x18_2, rfl, HA, HK2, BK191, HB⟩ := hrel
     cases gk with
     | zero => exact absurd HA.out (by simp [spec_pzGood.l0])
     | succ k2 =>
      have H := HA.out
      clear HA
      simp only [spec_pzGood.l0] at H
      by_cases c10 : x18_2 < (l0_1.length : Int)
      ·rw [if_pos c10] at H
       have c10b0 : decide (x18_2 < (l0_1.length : Int)) = true := decide_eq_true c10
       clear c10
       by_cases c11 : 0 ≤ x18_2
       ·rw [if_pos c11] at H
        have c11b0 : decide (0 ≤ x18_2) = true := decide_eq_true c11
        clear c11
        by_cases c12 : x18_2 < (l0_1.length : Int)
        ·rw [if_pos c12] at H
         have c12b0 : decide (x18_2 < (l0_1.length : Int)) = true := decide_eq_true c12
         clear c12
         replace H := Option.bind_eq_some_iff.mp H
         obtain ⟨t195, A130, H⟩ := H
         replace H : (if t195 = true then (spec_pzGood.l0 k2 l0_1 (l0_1.length : Int) (wrap64 (x18_2 + 1)) a0_0 l0_1) else (some false)) = some r := H
         have A13 := Aside0.mk A130
         clear A130
         by_cases c14 : t195 = true
         ·subst c14
          have H1 : (spec_pzGood.l0 k2 l0_1 (l0_1.length : Int) (wrap64 (x18_2 + 1)) a0_0 l0_1) = some r := by rw [if_pos rfl] at H; exact H
          clear H
          have H := H1
          clear H1
          have H' := Aside0.mk H
          clear H
          have p193 : 0 ≤ (x18_2 : Int) := of_decide_eq_true (by first | (with_reducible assumption) | assumption)
          have q193 : x18_2 < (l0_1.length : Int) := of_decide_eq_true (by first | (with_reducible assumption) | assumption)
          obtain ⟨ad193, e193, hx193_0, hx193_1, hx193_2⟩ := at_T86 HR0_1.out x18_2 p193 q193
          cases e193
          replace hx193_0 := (HB.out.cell (World.block_lt_of_cell? w _ hx193_0)).trans hx193_0
          replace hx193_1 := (HB.out.cell (World.block_lt_of_cell? w _ hx193_1)).trans hx193_1
          replace hx193_2 := (HB.out.cell (World.block_lt_of_cell? w _ hx193_2)).trans hx193_2
          replace p193 := eq_true p193
          replace q193 := eq_true q193
          go_wp2_with (first | ((with_reducible refine gate_dst (N := 4) rfl ?_); (try (refine gate_guard (by rfl) ?_; dsimp only)); refine box_event ?hg (N := 4) ?hd (cs := #[.int .i64 0, .int .i64 0, .int .i64 0]) (t := 86) ?hr ?_; (case hd => rfl); (case hg => rfl); (case hr => first | (go_simp; done) | (go_simp; rfl)); intro gb194 hg w15 hbox hb; have n0_ := Aside0.mk (blk_below (g := gb191) (o := .cells #[.int .i64 a0_0, .slice (some ad193) l0_1.length c0_1] 41 (0, 0)) (by (with_reducible repeat (first | refine blk_drewN ?_ _ | refine blk_drew ?_ | refine blk_alloc ?_ _)); exact BK191.out) hb); have n1_ := Aside0.mk (below_step (by repeat (first | (with_reducible first | exact HB.out | apply below_alloc | apply pw_below_drewN | apply below_drew1 | refine below_set ?_ GE191.out) | exact HB.out)) hb); have n2_ := Aside0.mk (hbox); have n3_ := Aside0.mk ((by rw [hg]; exact (below_size (by repeat (first | (with_reducible first | exact HB.out | apply below_alloc | apply pw_below_drewN | apply below_drew1 | refine below_set ?_ GE191.out) | exact HB.out))) : w.heap.size ≤ gb194)); have n4_ := Aside0.mk ((by rw [hg]; exact (below_size (by repeat (first | (with_reducible first | exact HB.out | apply below_alloc | apply pw_below_drewN | apply below_drew1 | refine below_set ?_ GE191.out) | exact HB.out))) : w.heap.size ≤ gb194)); have n5_ := Aside0.mk ((by rw [hg]; exact Nat.ne_of_lt (blk_lt (g := gb191) (o := .cells #[.int .i64 a0_0, .slice (some ad193) l0_1.length c0_1] 41 (0, 0)) (by (with_reducible repeat (first | refine blk_drewN ?_ _ | refine blk_drew ?_ | refine blk_alloc ?_ _)); exact BK191.out)) : gb191 ≠ gb194)); have n6_ := Aside0.mk ((by rw [hg]; exact Nat.ne_of_gt (blk_lt (g := gb191) (o := .cells #[.int .i64 a0_0, .slice (some ad193) l0_1.length c0_1] 41 (0, 0)) (by (with_reducible repeat (first | refine blk_drewN ?_ _ | refine blk_drew ?_ | refine blk_alloc ?_ _)); exact BK191.out)) : gb194 ≠ gb191)); clear BK191; clear HB; have BK191 := n0_; have HB := n1_; have BK194 := n2_; have GW194 := n3_; have GE194 := n4_; have NB191_194 := n5_; have NB194_191 := n6_; clear n0_ n1_ n2_ n3_ n4_ n5_ n6_; clear hb hbox hg; have hnb16 := NB194_191.out; have hnc16 := NB191_194.out; have hcz17_0 : w15.cell? ⟨gb194, 0, none⟩ = some (.int .i64 0) := (blk_cell BK194.out 0).trans rfl; have hcz17_1 : w15.cell? ⟨gb194, 1, none⟩ = some (.int .i64 0) := (blk_cell BK194.out 1).trans rfl; have hcz17_2 : w15.cell? ⟨gb194, 2, none⟩ = some (.int .i64 0) := (blk_cell BK194.out 2).trans rfl; have hfz17_0 := blk_frozen BK194.out 0; have hfz17_1 := blk_frozen BK194.out 1; have hfz17_2 := blk_frozen BK194.out 2; have hcz18_0 : w15.cell? ⟨gb191, 0, none⟩ = some (.int .i64 a0_0) := (blk_cell BK191.out 0).trans rfl; have hcz18_1 : w15.cell? ⟨gb191, 1, none⟩ = some (.slice (some ad193) l0_1.length c0_1) := (blk_cell BK191.out 1).trans rfl; have hfz18_0 := blk_frozen BK191.out 0; have hfz18_1 := blk_frozen BK191.out 1) | ((with_reducible refine gate_callee (f := 82) rfl ?_); refine goesL_ (some 25) rfl rfl Tryz.func82 (by kernel_rfl) rfl #[.int .i64 a0_0, .agg #[.int .i64 ((rd_T86 l0_1 x18_2).f0), .int .i64 ((rd_T86 l0_1 x18_2).f1), .int .i64 ((rd_T86 l0_1 x18_2).f2)]] rfl (by (try simp only [List.map_toArray, List.map_cons, List.map_nil]); first | done | rfl | (simp only [List.length_drop, List.length_take]; rfl)) ?_; (with_reducible refine (spec_pzClue.calls a0_0 ((rd_T86 l0_1 x18_2).f0) ((rd_T86 l0_1 x18_2).f1) ((rd_T86 l0_1 x18_2).f2) true _ A13.out).mono ?_); rintro e w19 ⟨rfl, hb⟩; refine ⟨_, rfl, ?_⟩; have n0_ := Aside0.mk (blk_below (g := gb191) (o := .cells #[.int .i64 a0_0, .slice (some ad193) l0_1.length c0_1] 41 (0, 0)) (by (with_reducible repeat (first | refine blk_drewN ?_ _ | refine blk_drew ?_ | refine blk_alloc ?_ _)); refine blk_far ?_ NB191_194.out _; (with_reducible repeat (first | refine blk_drewN ?_ _ | refine blk_drew ?_ | refine blk_alloc ?_ _)); refine blk_far ?_ NB191_194.out _; (with_reducible repeat (first | refine blk_drewN ?_ _ | refine blk_drew ?_ | refine blk_alloc ?_ _)); refine blk_far ?_ NB191_194.out _; (with_reducible repeat (first | refine blk_drewN ?_ _ | refine blk_drew ?_ | refine blk_alloc ?_ _)); exact BK191.out) hb); have n1_ := Aside0.mk (blk_below (g := gb194) (o := .cells #[.int .i64 ((rd_T86 l0_1 x18_2).f0), .int .i64 ((rd_T86 l0_1 x18_2).f1), .int .i64 ((rd_T86 l0_1 x18_2).f2)] 86 (0, 0)) (by (with_reducible repeat (first | refine blk_drewN ?_ _ | refine blk_drew ?_ | refine blk_alloc ?_ _)); refine blk_put (cs := #[.int .i64 ((rd_T86 l0_1 x18_2).f0), .int .i64 ((rd_T86 l0_1 x18_2).f1), .int .i64 0]) ?_ 2 _ rfl; (with_reducible repeat (first | refine blk_drewN ?_ _ | refine blk_drew ?_ | refine blk_alloc ?_ _)); refine blk_put (cs := #[.int .i64 ((rd_T86 l0_1 x18_2).f0), .int .i64 0, .int .i64 0]) ?_ 1 _ rfl; (with_reducible repeat (first | refine blk_drewN ?_ _ | refine blk_drew ?_ | refine blk_alloc ?_ _)); refine blk_put (cs := #[.int .i64 0, .int .i64 0, .int .i64 0]) ?_ 0 _ rfl; (with_reducible repeat (first | refine blk_drewN ?_ _ | refine blk_drew ?_ | refine blk_alloc ?_ _)); exact BK194.out) hb); have n2_ := Aside0.mk (below_step (by repeat (first | (with_reducible first | exact HB.out | apply below_alloc | apply pw_below_drewN | apply below_drew1 | refine below_set ?_ GE191.out | refine below_set ?_ GE194.out) | exact HB.out)) hb); clear BK191; clear BK194; clear HB; have BK191 := n0_; have BK194 := n1_; have HB := n2_; clear n0_ n1_ n2_; (try clear hb); (try clear hb2); (try clear hk); (try clear hi)))
          go_roundg k2
          case measure => have := HJ1.out; have := HK2.out; omega
          case rel => exact ⟨(wrap64 (x18_2 + 1)), (by first | rfl | (simp; done) | (simp [*]; done)), H', ⟨by have := HJ1.out; have := HK2.out; omega⟩, ⟨by (with_reducible repeat (first | refine blk_drewN ?_ _ | refine blk_drew ?_ | refine blk_alloc ?_ _)); exact BK191.out⟩, ⟨by repeat (first | (with_reducible first | exact HB.out | apply below_alloc | apply pw_below_drewN | apply below_drew1 | refine below_set ?_ GE191.out | refine below_set ?_ GE194.out) | exact HB.out)⟩⟩
         ·replace c14 := Bool.eq_false_iff.mpr c14
          subst c14
          have H1 : (some false) = some r := by rw [if_neg (show ¬ (false = true) by decide)] at H; exact H
          clear H
          have H := H1
          clear H1
          obtain rfl := Option.some.inj H
          have p193 : 0 ≤ (x18_2 : Int) := of_decide_eq_true (by first | (with_reducible assumption) | assumption)
          have q193 : x18_2 < (l0_1.length : Int) := of_decide_eq_true (by first | (with_reducible assumption) | assumption)
          obtain ⟨ad193, e193, hx193_0, hx193_1, hx193_2⟩ := at_T86 HR0_1.out x18_2 p193 q193
          cases e193
          replace hx193_0 := (HB.out.cell (World.block_lt_of_cell? w _ hx193_0)).trans hx193_0
          replace hx193_1 := (HB.out.cell (World.block_lt_of_cell? w _ hx193_1)).trans hx193_1
          replace hx193_2 := (HB.out.cell (World.block_lt_of_cell? w _ hx193_2)).trans hx193_2
          replace p193 := eq_true p193
          replace q193 := eq_true q193
          go_wp2_with (first | ((with_reducible refine gate_dst (N := 4) rfl ?_); (try (refine gate_guard (by rfl) ?_; dsimp only)); refine box_event ?hg (N := 4) ?hd (cs := #[.int .i64 0, .int .i64 0, .int .i64 0]) (t := 86) ?hr ?_; (case hd => rfl); (case hg => rfl); (case hr => first | (go_simp; done) | (go_simp; rfl)); intro gb194 hg w20 hbox hb; have n0_ := Aside0.mk (blk_below (g := gb191) (o := .cells #[.int .i64 a0_0, .slice (some ad193) l0_1.length c0_1] 41 (0, 0)) (by (with_reducible repeat (first | refine blk_drewN ?_ _ | refine blk_drew ?_ | refine blk_alloc ?_ _)); exact BK191.out) hb); have n1_ := Aside0.mk (below_step (by repeat (first | (with_reducible first | exact HB.out | apply below_alloc | apply pw_below_drewN | apply below_drew1 | refine below_set ?_ GE191.out) | exact HB.out)) hb); have n2_ := Aside0.mk (hbox); have n3_ := Aside0.mk ((by rw [hg]; exact (below_size (by repeat (first | (with_reducible first | exact HB.out | apply below_alloc | apply pw_below_drewN | apply below_drew1 | refine below_set ?_ GE191.out) | exact HB.out))) : w.heap.size ≤ gb194)); have n4_ := Aside0.mk ((by rw [hg]; exact (below_size (by repeat (first | (with_reducible first | exact HB.out | apply below_alloc | apply pw_below_drewN | apply below_drew1 | refine below_set ?_ GE191.out) | exact HB.out))) : w.heap.size ≤ gb194)); have n5_ := Aside0.mk ((by rw [hg]; exact Nat.ne_of_lt (blk_lt (g := gb191) (o := .cells #[.int .i64 a0_0, .slice (some ad193) l0_1.length c0_1] 41 (0, 0)) (by (with_reducible repeat (first | refine blk_drewN ?_ _ | refine blk_drew ?_ | refine blk_alloc ?_ _)); exact BK191.out)) : gb191 ≠ gb194)); have n6_ := Aside0.mk ((by rw [hg]; exact Nat.ne_of_gt (blk_lt (g := gb191) (o := .cells #[.int .i64 a0_0, .slice (some ad193) l0_1.length c0_1] 41 (0, 0)) (by (with_reducible repeat (first | refine blk_drewN ?_ _ | refine blk_drew ?_ | refine blk_alloc ?_ _)); exact BK191.out)) : gb194 ≠ gb191)); clear BK191; clear HB; have BK191 := n0_; have HB := n1_; have BK194 := n2_; have GW194 := n3_; have GE194 := n4_; have NB191_194 := n5_; have NB194_191 := n6_; clear n0_ n1_ n2_ n3_ n4_ n5_ n6_; clear hb hbox hg; have hnb21 := NB194_191.out; have hnc21 := NB191_194.out; have hcz22_0 : w20.cell? ⟨gb194, 0, none⟩ = some (.int .i64 0) := (blk_cell BK194.out 0).trans rfl; have hcz22_1 : w20.cell? ⟨gb194, 1, none⟩ = some (.int .i64 0) := (blk_cell BK194.out 1).trans rfl; have hcz22_2 : w20.cell? ⟨gb194, 2, none⟩ = some (.int .i64 0) := (blk_cell BK194.out 2).trans rfl; have hfz22_0 := blk_frozen BK194.out 0; have hfz22_1 := blk_frozen BK194.out 1; have hfz22_2 := blk_frozen BK194.out 2; have hcz23_0 : w20.cell? ⟨gb191, 0, none⟩ = some (.int .i64 a0_0) := (blk_cell BK191.out 0).trans rfl; have hcz23_1 : w20.cell? ⟨gb191, 1, none⟩ = some (.slice (some ad193) l0_1.length c0_1) := (blk_cell BK191.out 1).trans rfl; have hfz23_0 := blk_frozen BK191.out 0; have hfz23_1 := blk_frozen BK191.out 1) | ((with_reducible refine gate_callee (f := 82) rfl ?_); refine goesL_ (some 25) rfl rfl Tryz.func82 (by kernel_rfl) rfl #[.int .i64 a0_0, .agg #[.int .i64 ((rd_T86 l0_1 x18_2).f0), .int .i64 ((rd_T86 l0_1 x18_2).f1), .int .i64 ((rd_T86 l0_1 x18_2).f2)]] rfl (by (try simp only [List.map_toArray, List.map_cons, List.map_nil]); first | done | rfl | (simp only [List.length_drop, List.length_take]; rfl)) ?_; (with_reducible refine (spec_pzClue.calls a0_0 ((rd_T86 l0_1 x18_2).f0) ((rd_T86 l0_1 x18_2).f1) ((rd_T86 l0_1 x18_2).f2) false _ A13.out).mono ?_); rintro e w24 ⟨rfl, hb⟩; refine ⟨_, rfl, ?_⟩; have n0_ := Aside0.mk (blk_below (g := gb191) (o := .cells #[.int .i64 a0_0, .slice (some ad193) l0_1.length c0_1] 41 (0, 0)) (by (with_reducible repeat (first | refine blk_drewN ?_ _ | refine blk_drew ?_ | refine blk_alloc ?_ _)); refine blk_far ?_ NB191_194.out _; (with_reducible repeat (first | refine blk_drewN ?_ _ | refine blk_drew ?_ | refine blk_alloc ?_ _)); refine blk_far ?_ NB191_194.out _; (with_reducible repeat (first | refine blk_drewN ?_ _ | refine blk_drew ?_ | refine blk_alloc ?_ _)); refine blk_far ?_ NB191_194.out _; (with_reducible repeat (first | refine blk_drewN ?_ _ | refine blk_drew ?_ | refine blk_alloc ?_ _)); exact BK191.out) hb); have n1_ := Aside0.mk (blk_below (g := gb194) (o := .cells #[.int .i64 ((rd_T86 l0_1 x18_2).f0), .int .i64 ((rd_T86 l0_1 x18_2).f1), .int .i64 ((rd_T86 l0_1 x18_2).f2)] 86 (0, 0)) (by (with_reducible repeat (first | refine blk_drewN ?_ _ | refine blk_drew ?_ | refine blk_alloc ?_ _)); refine blk_put (cs := #[.int .i64 ((rd_T86 l0_1 x18_2).f0), .int .i64 ((rd_T86 l0_1 x18_2).f1), .int .i64 0]) ?_ 2 _ rfl; (with_reducible repeat (first | refine blk_drewN ?_ _ | refine blk_drew ?_ | refine blk_alloc ?_ _)); refine blk_put (cs := #[.int .i64 ((rd_T86 l0_1 x18_2).f0), .int .i64 0, .int .i64 0]) ?_ 1 _ rfl; (with_reducible repeat (first | refine blk_drewN ?_ _ | refine blk_drew ?_ | refine blk_alloc ?_ _)); refine blk_put (cs := #[.int .i64 0, .int .i64 0, .int .i64 0]) ?_ 0 _ rfl; (with_reducible repeat (first | refine blk_drewN ?_ _ | refine blk_drew ?_ | refine blk_alloc ?_ _)); exact BK194.out) hb); have n2_ := Aside0.mk (below_step (by repeat (first | (with_reducible first | exact HB.out | apply below_alloc | apply pw_below_drewN | apply below_drew1 | refine below_set ?_ GE191.out | refine below_set ?_ GE194.out) | exact HB.out)) hb); clear BK191; clear BK194; clear HB; have BK191 := n0_; have BK194 := n1_; have HB := n2_; clear n0_ n1_ n2_; (try clear hb); (try clear hb2); (try clear hk); (try clear hi)))
          go_ret
          exact ⟨by first | rfl | (simp [errW_none, errW_some] <;> rfl) | (simp [*, errW_none, errW_some] <;> rfl), by repeat (first | (with_reducible first | exact HB.out | apply below_alloc | apply pw_below_drewN | apply below_drew1 | refine below_set ?_ GE191.out | refine below_set ?_ GE194.out) | exact HB.out)⟩
        ·rw [if_neg c12] at H
         exact absurd H (by simp)
       ·rw [if_neg c11] at H
        exact absurd H (by simp)
      ·rw [if_neg c10] at H
       have c10b0 : decide (x18_2 < (l0_1.length : Int)) = false := decide_eq_false c10
       clear c10
       obtain rfl := Option.some.inj H
       go_wp2
       go_ret
       exact ⟨by first | rfl | (simp [errW_none, errW_some] <;> rfl) | (simp [*, errW_none, errW_some] <;> rfl), by repeat (first | (with_reducible first | exact HB.out | apply below_alloc | apply pw_below_drewN | apply below_drew1 | refine below_set ?_ GE191.out) | exact HB.out)⟩
end Go.Proofs.YtnncjnjfdhbddaaGreat.Z
