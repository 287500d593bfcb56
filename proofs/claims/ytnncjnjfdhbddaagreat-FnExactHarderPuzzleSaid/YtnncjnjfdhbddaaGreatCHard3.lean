import Derived.Test.YtnncjnjfdhbddaaGreatCHard1
import Derived.Test.YtnncjnjfdhbddaaGreatCHard2
import Derived.Shelf.Abstract
import Derived.Deep.RegionHeld3
import Derived.Deep.RegionLaw
namespace Go.Proofs.YtnncjnjfdhbddaaGreat.Z
open Go.RowKit Go.Proofs.YtnncjnjfdhbddaaGreatW.PrintWords Go.Proofs.YtnncjnjfdhbddaaGreatW.PrintLast Go.Proofs.YtnncjnjfdhbddaaGreatW.PrintMore
attribute [local go_sem] max2_int min2_int max_two min_two max_three min_three max_four min_four
set_option linter.unusedVariables false
set_option linter.unusedSimpArgs false
def tabs : Nat → List Nat
 | 0 => [0, 1]
 | n + 1 => (tabs n).flatMap fun a => ((tabs n).filter fun b => a &&& b == a).map fun b => (b * 2 ^ 2 ^ n) ||| a
def tabI (l : List Nat) : List Int := l.map fun (m : Nat) => (m : Int)
theorem tabI_get (l : List Nat) (i : Nat) : rd (tabI l) (i : Int) = ((l.getD i 0 : Nat) : Int) := by
 simp only [rd, tabI, Int.toNat_natCast, List.getD_eq_getElem?_getD, List.getElem?_map]
 cases l[i]? <;> simp
theorem tabs_len : ∀ n, n ≤ 4 → (tabs n).length ≤ 168 := by decide +kernel
theorem tabs_lt : ∀ n, n ≤ 4 → ∀ m ∈ tabs n, m < 65536 := by decide +kernel
def inner (n : Nat) (l : List Nat) (a : Nat) : List Nat := (l.filter fun b => a &&& b == a).map fun b => (b * 2 ^ 2 ^ n) ||| a
def tabsUpto (n : Nat) (l : List Nat) (kk jj : Nat) : List Nat := ((l.take kk).flatMap fun a => inner n l a) ++ (inner n (l.take jj) (l.getD kk 0))
theorem upto_start (n : Nat) (l : List Nat) : tabsUpto n l 0 0 = [] := by simp [tabsUpto, inner]
theorem upto_yes (n : Nat) (l : List Nat) (kk jj : Nat) (hj : jj < l.length) (h : (l.getD kk 0 &&& l.getD jj 0 == l.getD kk 0) = true) :
  tabsUpto n l kk (jj + 1) = tabsUpto n l kk jj ++ [(l.getD jj 0 * 2 ^ 2 ^ n) ||| l.getD kk 0] := by
 have e : l.take (jj + 1) = l.take jj ++ [l.getD jj 0] := by rw [List.take_succ_eq_append_getElem hj]; simp [List.getD_eq_getElem?_getD, hj]
 simp only [tabsUpto, inner, e, List.filter_append, List.map_append, List.append_assoc]
 rw [List.filter_cons, if_pos h]
 rfl
theorem upto_no (n : Nat) (l : List Nat) (kk jj : Nat) (hj : jj < l.length) (h : (l.getD kk 0 &&& l.getD jj 0 == l.getD kk 0) = false) :
  tabsUpto n l kk (jj + 1) = tabsUpto n l kk jj := by
 have e : l.take (jj + 1) = l.take jj ++ [l.getD jj 0] := by rw [List.take_succ_eq_append_getElem hj]; simp [List.getD_eq_getElem?_getD, hj]
 simp only [tabsUpto, inner, e, List.filter_append, List.map_append]
 rw [List.filter_cons, if_neg (by rw [h]; simp)]
 simp
theorem upto_next (n : Nat) (l : List Nat) (kk : Nat) (hk : kk < l.length) : tabsUpto n l kk l.length = tabsUpto n l (kk + 1) 0 := by
 have e : l.take (kk + 1) = l.take kk ++ [l.getD kk 0] := by rw [List.take_succ_eq_append_getElem hk]; simp [List.getD_eq_getElem?_getD, hk]
 simp [tabsUpto, inner, e]
theorem upto_end (n : Nat) (l : List Nat) : tabsUpto n l l.length 0 = l.flatMap fun a => inner n l a := by simp [tabsUpto, inner]
theorem inner_len (n : Nat) (l : List Nat) (a : Nat) : (inner n l a).length ≤ l.length := by
 simp only [inner, List.length_map]
 exact List.length_filter_le _ _
theorem flat_len (n : Nat) (l m : List Nat) : (m.flatMap fun a => inner n l a).length ≤ m.length * l.length := by
 induction m with
 | nil => simp
 | cons a m ih =>
  rw [List.flatMap_cons, List.length_append, List.length_cons, Nat.succ_mul]
  have := inner_len n l a
  omega
theorem upto_len (n : Nat) (l : List Nat) (kk jj : Nat) (hl : l.length ≤ 168) : (tabsUpto n l kk jj).length ≤ 30000 := by
 unfold tabsUpto
 rw [List.length_append]
 have h1 := flat_len n l (l.take kk)
 have h2 := inner_len n (l.take jj) (l.getD kk 0)
 have h3 : (l.take kk).length ≤ 168 := Nat.le_trans (by simp; omega) hl
 have h4 : (l.take jj).length ≤ 168 := Nat.le_trans (by simp; omega) hl
 have h5 : (l.take kk).length * l.length ≤ 168 * 168 := Nat.mul_le_mul h3 hl
 omega
theorem pow2_le (n : Nat) (hn : n < 4) : 2 ^ 2 ^ n ≤ 256 ∧ 2 ^ n ≤ 8 := by
 have : n = 0 ∨ n = 1 ∨ n = 2 ∨ n = 3 := by omega
 rcases this with h | h | h | h <;> subst h <;> decide
set_option maxRecDepth 100000 in
set_option maxHeartbeats 8000000 in
theorem tables_step (n : Nat) (hn : n < 4) (ih : ∀ w, Calls Tryz.prog 116 #[.int .i64 (n : Int)] w fun e w' => ∃ v : Value, e = .returned v ∧ Kd.R (Kd.int .i64) 3 w' w.heap.size (fun _ => True) v (tabI (tabs n)) ∧ Below w.heap.size w w') (w : World) :
  Calls Tryz.prog 116 #[.int .i64 ((n + 1 : Nat) : Int)] w fun e w' => ∃ v : Value, e = .returned v ∧ Kd.R (Kd.int .i64) 3 w' w.heap.size (fun _ => True) v (tabI (tabs (n + 1))) ∧ Below w.heap.size w w' := by
 have h1 := tabs_len n (by omega)
 have h2 := tabs_lt n (by omega)
 have h3 : tabs (n + 1) = (tabs n).flatMap fun a => inner n (tabs n) a := rfl
 rw [h3]
 generalize tabs n = l at *
 have ih2 : ∀ w, Calls Tryz.prog 116 #[.int .i64 (n : Int)] w fun e w' => ∃ A1 c1, e = .returned (.slice A1 l.length c1) ∧ Kd.C (Kd.int .i64) w' A1 l.length (tabI l) ∧ Below w.heap.size w w' := fun w => (ih w).mono fun e w' ⟨v, he, hR, hB⟩ => by
  obtain ⟨A1, c1, rfl, _, hC⟩ := Kd.R_reads hR
  have e1 : (tabI l).length = l.length := by simp [tabI]
  rw [e1] at he hC
  exact ⟨A1, c1, he, hC, hB⟩
 have IH := Aside0.mk ih2
 have HL := Aside0.mk h2
 have HL1 := Aside0.mk h1
 have hz : ((((n + 1 : Nat) : Int)) == 0) = false := beq_eq_false_iff_ne.mpr (by omega)
 have hz2 : wrap64 (((n + 1 : Nat) : Int) - 1) = (n : Int) := by unfold wrap64; omega
 obtain ⟨hp1, hp2⟩ := pow2_le n hn
 have hsh : IntKind.u64.wrap (2 ^ n) = ((2 ^ n : Nat) : Int) := by
  have : n = 0 ∨ n = 1 ∨ n = 2 ∨ n = 3 := by omega
  rcases this with h | h | h | h <;> subst h <;> decide
 have HPS := Aside0.mk (rfl : 2 ^ 2 ^ n = 2 ^ 2 ^ n)
 obtain ⟨sh, hshd⟩ : ∃ sh, sh = 2 ^ n := ⟨_, rfl⟩
 rw [← hshd] at hsh
 have HSH := Aside0.mk hshd
 clear ih ih2 h2 h3 HPS hshd
 have HUL := Aside0.mk (fun kk jj => upto_len n l kk jj h1)
 generalize hN : ((n + 1 : Nat) : Int) = N1 at *
 have hN2 : N1 - 1 = (n : Int) := by omega
 have hN3 : 1 ≤ N1 := by omega
 have hN4 : N1 ≤ 4 := by omega
 clear hN
 obtain ⟨N, hNl⟩ : ∃ N, N = l.length := ⟨_, rfl⟩
 rw [← hNl] at IH h1
 have HN := Aside0.mk hNl
 clear hNl
 go_enter Tryz.func116, Tryz.ntmps116
 go_wp2_with (go_at_call 116; refine (IH.out _).mono ?_; rintro e w1 ⟨A1, c1, rfl, hC, hb⟩; have HC := Aside0.mk hC; have HB := Aside0.mk hb; clear hb hC)
 clear IH
 go_loopg [4, 6, 8, 18, 22, 23, 24] N (fun gg v4 _ _ s18 _ _ _ wr => ∃ kk : Nat, kk ≤ N ∧ N - kk ≤ gg ∧ s18 = .int .i64 kk ∧ Aside0 (Below w1.heap.size w1 wr) ∧ Aside0 (Kd.R (Kd.int .i64) 3 wr w1.heap.size (fun _ => True) v4 (tabI (tabsUpto n l kk 0))))
 case atStart =>
  refine ⟨0, by omega, by omega, rfl, ⟨(Below.refl _ _).alloc (Nat.le_refl _) _⟩, ⟨?_⟩⟩
  rw [upto_start]
  exact Kd.R_of_own (xs := []) ⟨rfl, .inr ⟨w1.heap.size, 0, #[], rfl, Nat.le_refl _, heap1_0 _ _, Nat.le_refl _, by simp [maxLen], rfl, rfl⟩⟩ (fun _ _ => trivial)
 case round =>
  obtain ⟨kk, hkk, hg, rfl, BW, HO⟩ := hrel
  by_cases hlt : kk < N
  ·have hltz : (kk : Int) < (N : Int) := by omega
   have h0z : (0 : Int) ≤ (kk : Int) := by omega
   obtain ⟨ad, e, hcell⟩ := Kd.at_int (Kd.C_below HC.out BW.out) (kk : Int) h0z hltz
   rw [tabI_get, Int.toNat_natCast] at hcell
   subst e
   have ha := HL.out (l.getD kk 0) (by have := HN.out; simp [List.getD_eq_getElem?_getD, show kk < l.length by omega])
   have HK := Aside0.mk (rfl : l.getD kk 0 = l.getD kk 0)
   generalize hav : l.getD kk 0 = a at hcell ha
   have HAV := Aside0.mk hav
   clear hav
   go_wp2
   clear hcell
   obtain ⟨wo, hwo⟩ : ∃ wo : World, wo = wr := ⟨_, rfl⟩
   subst hwo
   go_loopg [4, 8, 24] N (fun gg2 v4 _ s24 wr2 => ∃ jj : Nat, jj ≤ N ∧ N - jj ≤ gg2 ∧ s24 = .int .i64 jj ∧ Aside0 (Below w1.heap.size w1 wr2) ∧ Aside0 (Kd.R (Kd.int .i64) 3 wr2 w1.heap.size (fun _ => True) v4 (tabI (tabsUpto n l kk jj))))
   case atStart => exact ⟨0, by omega, by omega, rfl, BW, HO⟩
   case round =>
    clear BW HO
    obtain ⟨jj, hjj, hg2, rfl, BW, HO⟩ := hrel
    by_cases hlt2 : jj < N
    ·have hltz2 : (jj : Int) < (N : Int) := by omega
     have h0z2 : (0 : Int) ≤ (jj : Int) := by omega
     obtain ⟨ad2, e, hcell2⟩ := Kd.at_int (Kd.C_below HC.out BW.out) (jj : Int) h0z2 hltz2
     rw [tabI_get, Int.toNat_natCast] at hcell2
     injection e with e
     subst e
     have hb := HL.out (l.getD jj 0) (by have := HN.out; simp [List.getD_eq_getElem?_getD, show jj < l.length by omega])
     have hyes := upto_yes n l kk jj (by have := HN.out; omega)
     have hno := upto_no n l kk jj (by have := HN.out; omega)
     rw [HAV.out] at hyes hno
     generalize hbv : l.getD jj 0 = b at hcell2 hb hyes hno
     clear hbv
     have hand := and_nat a b (by omega) (by omega)
     have hbl : b * 2 ^ 2 ^ n ≤ 65535 * 256 := Nat.mul_le_mul (by omega) hp1
     have hor := or_nat (b * 2 ^ 2 ^ n) a (by omega) (by omega)
     have HUL2 := Aside0.mk (HUL.out kk jj)
     cases hq : (a &&& b == a) with
     | false =>
      have HNO := Aside0.mk (hno hq)
      have hq2 : (((a &&& b : Nat) : Int) == (a : Int)) = false := by
       rw [beq_eq_false_iff_ne] at hq ⊢
       omega
      generalize a &&& b = ab at hand hq2
      clear hno hyes hq hor
      go_wp2
      go_roundg (N - (jj + 1))
      case measure => omega
      case rel => exact ⟨jj + 1, by omega, by omega, by go_num, BW, ⟨by rw [HNO.out]; exact HO.out⟩⟩
     | true =>
      have HYES := Aside0.mk (hyes hq)
      have hq2 : (((a &&& b : Nat) : Int) == (a : Int)) = true := by
       rw [beq_iff_eq] at hq ⊢
       omega
      generalize a &&& b = ab at hand hq2
      have h5 : wrap64 ((b : Int) * 2 ^ sh) = ((b * 2 ^ 2 ^ n : Nat) : Int) := by
       rw [HSH.out]
       have : ((b : Int) * 2 ^ 2 ^ n) = ((b * 2 ^ 2 ^ n : Nat) : Int) := by simp
       rw [this]
       unfold wrap64
       omega
      have hmin : min sh 64 = sh := by have := HSH.out; omega
      have h6 : wrap64 ((b : Int) * 2 ^ min sh 64) = ((b * 2 ^ 2 ^ n : Nat) : Int) := by rw [hmin]; exact h5
      generalize b * 2 ^ 2 ^ n = bs at h5 h6 hor HYES
      generalize bs ||| a = r at hor HYES
      clear hno hyes hq hmin hbl hp1 hp2
      go_wp2_with ((with_reducible refine gate_builtin (b := .append) (xs := #[.tmp 33, .tmp 41]) rfl ?_); at_builtin; refine Kd.R_append (Kd.int .i64) (w0 := w1) w1.heap.size rfl (.tmp 33) (.tmp 41) 36 3 (.int .i64 0) 8 rfl Tryz.underlying36 infoI rfl (by decide) (by omega) u4 (tabI (tabsUpto n l kk jj)) (r : Int) [.int .i64 (r : Int)] (fun _ => True) (fun _ => False) rfl rfl rfl (fun _ hk => hk.elim) (fun _ _ => trivial) HO.out BW.out BW.out.size (by have := HUL2.out; simp only [tabI, List.length_map]; omega) ?_; intro v1 w3 ho hb hg hat; have HO1 := Aside0.mk ho; have HB1 := Aside0.mk hb; clear ho hb hg hat)
      go_roundg (N - (jj + 1))
      case measure => omega
      case rel => exact ⟨jj + 1, by omega, by omega, by go_num, HB1, ⟨by rw [HYES.out, show tabI (tabsUpto n l kk jj ++ [r]) = tabI (tabsUpto n l kk jj) ++ [(r : Int)] by simp [tabI]]; exact HO1.out⟩⟩
    ·have hltz2 : ¬ (jj : Int) < (N : Int) := by omega
     have : jj = N := by omega
     subst this
     have HNX := Aside0.mk (upto_next n l kk (by have := HN.out; omega))
     rw [← HN.out] at HNX
     go_wp2
     go_roundg (jj - (kk + 1))
     case measure => omega
     case rel => exact ⟨kk + 1, by omega, by omega, by go_num, BW, ⟨by rw [← HNX.out]; exact HO.out⟩⟩
  ·have hltz : ¬ (kk : Int) < (N : Int) := by omega
   have : kk = N := by omega
   subst this
   have HE := Aside0.mk (upto_end n l)
   rw [← HN.out] at HE
   go_wp2
   go_ret
   exact ⟨_, rfl, by rw [← HE.out]; exact Kd.R_lower HO.out HB.out.size, Below.trans HB.out (BW.out.mono HB.out.size)⟩
theorem tables_zero (w : World) :
  Calls Tryz.prog 116 #[.int .i64 0] w fun e w' => ∃ v : Value, e = .returned v ∧ Kd.R (Kd.int .i64) 3 w' w.heap.size (fun _ => True) v (tabI (tabs 0)) ∧ Below w.heap.size w w' := by
 go_enter Tryz.func116, Tryz.ntmps116
 go_wp2
 go_ret
 exact ⟨_, rfl, Kd.R_of_own (xs := [0, 1]) (own_lit_of w w.heap.size 3 [0, 1] (Nat.le_refl _) (by simp)) (fun _ _ => trivial), (Below.refl _ _).alloc (Nat.le_refl _) _⟩
theorem tables_any : ∀ (n : Nat), n ≤ 4 → ∀ w, Calls Tryz.prog 116 #[.int .i64 (n : Int)] w fun e w' => ∃ v : Value, e = .returned v ∧ Kd.R (Kd.int .i64) 3 w' w.heap.size (fun _ => True) v (tabI (tabs n)) ∧ Below w.heap.size w w'
 | 0, _, w => tables_zero w
 | n + 1, h, w => tables_step n (by omega) (tables_any n (by omega)) w
end Go.Proofs.YtnncjnjfdhbddaaGreat.Z
namespace Go.Proofs.YtnncjnjfdhbddaaGreat.Z
open Go.RowKit Go.Proofs.YtnncjnjfdhbddaaGreatW.PrintWords Go.Proofs.YtnncjnjfdhbddaaGreatW.PrintLast Go.Proofs.YtnncjnjfdhbddaaGreatW.PrintMore
attribute [local go_sem] max2_int min2_int max_two min_two max_three min_three max_four min_four
set_option linter.unusedVariables false
set_option linter.unusedSimpArgs false
def impl_votes_isLeast.l0 : Nat → Int → Int → Int → Int → List Bool → Option (Bool)
 | 0, _, _, _, _, _ => none
 | k + 1, x1, x13, x14, x569000, x569001 => if x14 < x13 then ((impl_has.f x1 x14).bind fun t570 => (if t570 = true then (if 0 ≤ x14 then (if 0 ≤ (Go.bits .andNot .i64 x1 (shl .i64 1 x14)) then (if (Go.bits .andNot .i64 x1 (shl .i64 1 x14)) < (x569001.length : Int) then (if rdOf false x569001 (Go.bits .andNot .i64 x1 (shl .i64 1 x14)) = true then (some false) else (impl_votes_isLeast.l0 k x1 x13 (wrap64 (x14 + 1)) x569000 x569001)) else (none)) else (none)) else (none)) else (impl_votes_isLeast.l0 k x1 x13 (wrap64 (x14 + 1)) x569000 x569001))) else (some true)
def impl_votes_isLeast.f (k : Nat) (a0_0 : Int) (l0_1 : List Bool) (a1 : Int) : Option (Bool) := if 0 ≤ a1 then (if a1 < (l0_1.length : Int) then (if rdOf false l0_1 a1 = true then (impl_votes_isLeast.l0 k a1 a0_0 0 a0_0 l0_1) else (some false)) else (none)) else (none)
set_option maxHeartbeats 8000000 in
set_option maxRecDepth 100000 in
theorem impl_votes_isLeast.calls (k : Nat) (a0_0 : Int) (A0_1 : Option Addr) (c0_1 : Nat) (l0_1 : List Bool) (a1 : Int) (r : Bool) (w : World) (hr0_1 : Kd.C Kd.bool w A0_1 l0_1.length l0_1) (hc0_1 : l0_1.length ≤ c0_1) (h : impl_votes_isLeast.f k a0_0 l0_1 a1 = some r) :
  Calls Tryz.prog 163 #[.agg #[.int .i64 a0_0, .slice A0_1 l0_1.length c0_1], .int .i64 a1] w fun e w' => e = .returned (.bool r) ∧ Below w.heap.size w w' := by
 have hu68 := Tryz.underlying68
 have HR0_1 := Aside0.mk hr0_1
 have HC0_1 := Aside0.mk hc0_1
 clear hr0_1 hc0_1
 have HB := Aside0.mk (Below.refl w.heap.size w)
 have H : (if 0 ≤ a1 then (if a1 < (l0_1.length : Int) then (if rdOf false l0_1 a1 = true then (impl_votes_isLeast.l0 k a1 a0_0 0 a0_0 l0_1) else (some false)) else (none)) else (none)) = some r := h
 clear h
 by_cases c3 : 0 ≤ a1
 ·rw [if_pos c3] at H
  have c3b0 : decide (0 ≤ a1) = true := decide_eq_true c3
  clear c3
  by_cases c4 : a1 < (l0_1.length : Int)
  ·rw [if_pos c4] at H
   have c4b0 : decide (a1 < (l0_1.length : Int)) = true := decide_eq_true c4
   clear c4
   obtain ⟨bq5, hbq5⟩ : ∃ b_ : Bool, b_ = (rdOf false l0_1 a1) := ⟨_, rfl⟩
   replace H : (if bq5 = true then (impl_votes_isLeast.l0 k a1 a0_0 0 a0_0 l0_1) else (some false)) = some r := by rw [← hbq5] at H; exact H
   have Nbq5 := Aside0.mk hbq5
   clear hbq5
   by_cases c6 : bq5 = true
   ·subst c6
    have H1 : (impl_votes_isLeast.l0 k a1 a0_0 0 a0_0 l0_1) = some r := by rw [if_pos rfl] at H; exact H
    clear H
    have H := H1
    clear H1
    have H' := Aside0.mk H
    clear H
    go_enter Tryz.func163, Tryz.ntmps163
    go_wp2_with (first | ((with_reducible refine gate_dst (N := 2) rfl ?_); refine box_event ?hg (N := 2) ?hd (cs := #[.int .i64 a0_0, .slice A0_1 l0_1.length c0_1]) (t := 68) ?hr ?_; (case hd => rfl); (case hg => rfl); (case hr => first | (go_simp; done) | (go_simp; rfl)); intro gb568 hg w7 hbox hb; have n0_ := Aside0.mk (below_step (by repeat (first | (with_reducible first | exact HB.out | apply below_alloc | apply pw_below_drewN | apply below_drew1) | exact HB.out)) hb); have n1_ := Aside0.mk (hbox); have n2_ := Aside0.mk ((by rw [hg]; exact (below_size (by repeat (first | (with_reducible first | exact HB.out | apply below_alloc | apply pw_below_drewN | apply below_drew1) | exact HB.out))) : w.heap.size ≤ gb568)); have n3_ := Aside0.mk ((by rw [hg]; exact (below_size (by repeat (first | (with_reducible first | exact HB.out | apply below_alloc | apply pw_below_drewN | apply below_drew1) | exact HB.out))) : w.heap.size ≤ gb568)); clear HB; have HB := n0_; have BK568 := n1_; have GW568 := n2_; have GE568 := n3_; clear n0_ n1_ n2_ n3_; clear hb hbox hg; have hcz8_0 : w7.cell? ⟨gb568, 0, none⟩ = some (.int .i64 a0_0) := (blk_cell BK568.out 0).trans rfl; have hcz8_1 : w7.cell? ⟨gb568, 1, none⟩ = some (.slice A0_1 l0_1.length c0_1) := (blk_cell BK568.out 1).trans rfl; have hfz8_0 := blk_frozen BK568.out 0; have hfz8_1 := blk_frozen BK568.out 1; have p569 : 0 ≤ (a1 : Int) := of_decide_eq_true (by first | (with_reducible assumption) | assumption); have q569 : a1 < (l0_1.length : Int) := of_decide_eq_true (by first | (with_reducible assumption) | assumption); obtain ⟨ad569, e569, hx569_0⟩ := Kd.at_bool HR0_1.out a1 p569 q569; (try rw [← Nbq5.out] at hx569_0); cases e569; replace hx569_0 := (HB.out.cell (World.block_lt_of_cell? w _ hx569_0)).trans hx569_0; replace p569 := eq_true p569; replace q569 := eq_true q569))
    repeat (go_quiet (first | ((with_reducible refine gate_dst (N := 2) rfl ?_); refine box_event ?hg (N := 2) ?hd (cs := #[.int .i64 a0_0, .slice A0_1 l0_1.length c0_1]) (t := 68) ?hr ?_; (case hd => rfl); (case hg => rfl); (case hr => first | (go_simp; done) | (go_simp; rfl)); intro gb568 hg w7 hbox hb; have n0_ := Aside0.mk (below_step (by repeat (first | (with_reducible first | exact HB.out | apply below_alloc | apply pw_below_drewN | apply below_drew1) | exact HB.out)) hb); have n1_ := Aside0.mk (hbox); have n2_ := Aside0.mk ((by rw [hg]; exact (below_size (by repeat (first | (with_reducible first | exact HB.out | apply below_alloc | apply pw_below_drewN | apply below_drew1) | exact HB.out))) : w.heap.size ≤ gb568)); have n3_ := Aside0.mk ((by rw [hg]; exact (below_size (by repeat (first | (with_reducible first | exact HB.out | apply below_alloc | apply pw_below_drewN | apply below_drew1) | exact HB.out))) : w.heap.size ≤ gb568)); clear HB; have HB := n0_; have BK568 := n1_; have GW568 := n2_; have GE568 := n3_; clear n0_ n1_ n2_ n3_; clear hb hbox hg; have hcz8_0 : w7.cell? ⟨gb568, 0, none⟩ = some (.int .i64 a0_0) := (blk_cell BK568.out 0).trans rfl; have hcz8_1 : w7.cell? ⟨gb568, 1, none⟩ = some (.slice A0_1 l0_1.length c0_1) := (blk_cell BK568.out 1).trans rfl; have hfz8_0 := blk_frozen BK568.out 0; have hfz8_1 := blk_frozen BK568.out 1; have p569 : 0 ≤ (a1 : Int) := of_decide_eq_true (by first | (with_reducible assumption) | assumption); have q569 : a1 < (l0_1.length : Int) := of_decide_eq_true (by first | (with_reducible assumption) | assumption); obtain ⟨ad569, e569, hx569_0⟩ := Kd.at_bool HR0_1.out a1 p569 q569; (try rw [← Nbq5.out] at hx569_0); cases e569; replace hx569_0 := (HB.out.cell (World.block_lt_of_cell? w _ hx569_0)).trans hx569_0; replace p569 := eq_true p569; replace q569 := eq_true q569)); try go_wp2_with (first | ((with_reducible refine gate_dst (N := 2) rfl ?_); refine box_event ?hg (N := 2) ?hd (cs := #[.int .i64 a0_0, .slice A0_1 l0_1.length c0_1]) (t := 68) ?hr ?_; (case hd => rfl); (case hg => rfl); (case hr => first | (go_simp; done) | (go_simp; rfl)); intro gb568 hg w7 hbox hb; have n0_ := Aside0.mk (below_step (by repeat (first | (with_reducible first | exact HB.out | apply below_alloc | apply pw_below_drewN | apply below_drew1) | exact HB.out)) hb); have n1_ := Aside0.mk (hbox); have n2_ := Aside0.mk ((by rw [hg]; exact (below_size (by repeat (first | (with_reducible first | exact HB.out | apply below_alloc | apply pw_below_drewN | apply below_drew1) | exact HB.out))) : w.heap.size ≤ gb568)); have n3_ := Aside0.mk ((by rw [hg]; exact (below_size (by repeat (first | (with_reducible first | exact HB.out | apply below_alloc | apply pw_below_drewN | apply below_drew1) | exact HB.out))) : w.heap.size ≤ gb568)); clear HB; have HB := n0_; have BK568 := n1_; have GW568 := n2_; have GE568 := n3_; clear n0_ n1_ n2_ n3_; clear hb hbox hg; have hcz8_0 : w7.cell? ⟨gb568, 0, none⟩ = some (.int .i64 a0_0) := (blk_cell BK568.out 0).trans rfl; have hcz8_1 : w7.cell? ⟨gb568, 1, none⟩ = some (.slice A0_1 l0_1.length c0_1) := (blk_cell BK568.out 1).trans rfl; have hfz8_0 := blk_frozen BK568.out 0; have hfz8_1 := blk_frozen BK568.out 1; have p569 : 0 ≤ (a1 : Int) := of_decide_eq_true (by first | (with_reducible assumption) | assumption); have q569 : a1 < (l0_1.length : Int) := of_decide_eq_true (by first | (with_reducible assumption) | assumption); obtain ⟨ad569, e569, hx569_0⟩ := Kd.at_bool HR0_1.out a1 p569 q569; (try rw [← Nbq5.out] at hx569_0); cases e569; replace hx569_0 := (HB.out.cell (World.block_lt_of_cell? w _ hx569_0)).trans hx569_0; replace p569 := eq_true p569; replace q569 := eq_true q569)))
    go_loopg [14] k (fun kq v14 w' => ∃ (x14_1 : Int), v14 = .int .i64 x14_1 ∧ Aside0 (impl_votes_isLeast.l0 kq a1 a0_0 x14_1 a0_0 l0_1 = some r) ∧ Aside0 (kq ≤ k) ∧ Aside0 (w'.heap[gb568]? = some (.cells #[.int .i64 a0_0, (.slice (some ad569) l0_1.length c0_1)] 68 (0, 0))) ∧ Aside0 (Below w.heap.size w w'))
    case atStart => exact ⟨(0), (by first | rfl | (simp; done) | (simp [*]; done)), H', ⟨Nat.le_refl _⟩, ⟨by (with_reducible repeat (first | refine blk_drewN ?_ _ | refine blk_drew ?_ | refine blk_alloc ?_ _)); exact BK568.out⟩, ⟨by repeat (first | (with_reducible first | exact HB.out | apply below_alloc | apply pw_below_drewN | apply below_drew1 | refine below_set ?_ GE568.out) | exact HB.out)⟩⟩
    case round =>
     clear H'
     try clear c1
     try clear p2
     try clear c3
     try clear c3b0
     try clear c4
     try clear c4b0
     try clear p5
     try clear q5
     try clear hx5
     try clear c6
     try clear hcz8_0
     try clear hcz8_1
     try clear hfz8_0
     try clear hfz8_1
     try clear hx569_0
     try clear p569
     try clear q569
     obtain ⟨x14_1, rfl, HA, HK1, BK568, HB⟩ := hrel
     cases gk with
     | zero => exact absurd HA.out (by simp [impl_votes_isLeast.l0])
     | succ k1 =>
      have H := HA.out
      clear HA
      simp only [impl_votes_isLeast.l0] at H
      by_cases c9 : x14_1 < a0_0
      ·rw [if_pos c9] at H
       have c9b0 : decide (x14_1 < a0_0) = true := decide_eq_true c9
       clear c9
       replace H := Option.bind_eq_some_iff.mp H
       obtain ⟨t570, A100, H⟩ := H
       replace H : (if t570 = true then (if 0 ≤ x14_1 then (if 0 ≤ (Go.bits .andNot .i64 a1 (shl .i64 1 x14_1)) then (if (Go.bits .andNot .i64 a1 (shl .i64 1 x14_1)) < (l0_1.length : Int) then (if rdOf false l0_1 (Go.bits .andNot .i64 a1 (shl .i64 1 x14_1)) = true then (some false) else (impl_votes_isLeast.l0 k1 a1 a0_0 (wrap64 (x14_1 + 1)) a0_0 l0_1)) else (none)) else (none)) else (none)) else (impl_votes_isLeast.l0 k1 a1 a0_0 (wrap64 (x14_1 + 1)) a0_0 l0_1)) = some r := H
       have A10 := Aside0.mk A100
       clear A100
       by_cases c11 : t570 = true
       ·subst c11
        have H1 : (if 0 ≤ x14_1 then (if 0 ≤ (Go.bits .andNot .i64 a1 (shl .i64 1 x14_1)) then (if (Go.bits .andNot .i64 a1 (shl .i64 1 x14_1)) < (l0_1.length : Int) then (if rdOf false l0_1 (Go.bits .andNot .i64 a1 (shl .i64 1 x14_1)) = true then (some false) else (impl_votes_isLeast.l0 k1 a1 a0_0 (wrap64 (x14_1 + 1)) a0_0 l0_1)) else (none)) else (none)) else (none)) = some r := by rw [if_pos rfl] at H; exact H
        clear H
        have H := H1
        clear H1
        by_cases c12 : 0 ≤ x14_1
        ·rw [if_pos c12] at H
         have c12b0 := eq_true c12
         have c12b1 : decide (0 ≤ x14_1) = true := decide_eq_true c12
         clear c12
         obtain ⟨ji13, hji13⟩ : ∃ j_ : Int, (shl .i64 1 x14_1) = j_ := ⟨_, rfl⟩
         replace H : (if 0 ≤ (Go.bits .andNot .i64 a1 (ji13)) then (if (Go.bits .andNot .i64 a1 (ji13)) < (l0_1.length : Int) then (if rdOf false l0_1 (Go.bits .andNot .i64 a1 (ji13)) = true then (some false) else (impl_votes_isLeast.l0 k1 a1 a0_0 (wrap64 (x14_1 + 1)) a0_0 l0_1)) else (none)) else (none)) = some r := by first | (rw [hji13] at H; exact H) | (simp only [hji13] at H ⊢; exact H)
         (try rw [hji13] at A10)
         have hji13_ : (IntKind.i64.wrap (1 * 2 ^ min x14_1.toNat 64)) = ji13 := hji13
         have hji13z : x14_1 ≤ 64 → (IntKind.i64.wrap (1 * 2 ^ x14_1.toNat)) = ji13 := shl_small hji13
         have hji13u : (IntKind.i64.wrap (2 ^ min x14_1.toNat 64)) = ji13 := by have h_ := hji13_; rw [Int.one_mul] at h_; exact h_
         have hji13v : x14_1 ≤ 64 → (IntKind.i64.wrap (2 ^ x14_1.toNat)) = ji13 := fun hle_ => by have h_ := hji13z hle_; rw [Int.one_mul] at h_; exact h_
         have hji13y : (wrap64 (1 * 2 ^ min x14_1.toNat 64)) = ji13 := (i64_w _).symm.trans hji13_
         have hji13x : x14_1 ≤ 64 → (wrap64 (1 * 2 ^ x14_1.toNat)) = ji13 := fun h_ => (i64_w _).symm.trans (hji13z h_)
         by_cases c14 : 0 ≤ (Go.bits .andNot .i64 a1 (ji13))
         ·rw [if_pos c14] at H
          have c14b0 : decide (0 ≤ (Go.bits .andNot .i64 a1 (ji13))) = true := decide_eq_true c14
          clear c14
          by_cases c15 : (Go.bits .andNot .i64 a1 (ji13)) < (l0_1.length : Int)
          ·rw [if_pos c15] at H
           have c15b0 : decide ((Go.bits .andNot .i64 a1 (ji13)) < (l0_1.length : Int)) = true := decide_eq_true c15
           clear c15
           obtain ⟨bq16, hbq16⟩ : ∃ b_ : Bool, b_ = (rdOf false l0_1 (Go.bits .andNot .i64 a1 (ji13))) := ⟨_, rfl⟩
           replace H : (if bq16 = true then (some false) else (impl_votes_isLeast.l0 k1 a1 a0_0 (wrap64 (x14_1 + 1)) a0_0 l0_1)) = some r := by rw [← hbq16] at H; exact H
           have Nbq16 := Aside0.mk hbq16
           clear hbq16
           by_cases c17 : bq16 = true
           ·subst c17
            have H1 : (some false) = some r := by rw [if_pos rfl] at H; exact H
            clear H
            have H := H1
            clear H1
            obtain rfl := Option.some.inj H
            go_wp2_with (first | (go_at_call 118; (with_reducible refine (impl_has.calls a1 x14_1 true _ A10.out).mono ?_); rintro e w' ⟨rfl, ⟨nd, rfl⟩⟩; (try first | exact ⟨rfl, _, World.drewN_drewN _ _ _⟩ | exact ⟨rfl, _, Eq.trans (World.drewN_drewN _ _ _) (congrArg (World.drewN _) (Nat.add_assoc _ _ _))⟩); have hcz18_0 : wr.cell? ⟨gb568, 0, none⟩ = some (.int .i64 a0_0) := (blk_cell BK568.out 0).trans rfl; have hcz18_1 : wr.cell? ⟨gb568, 1, none⟩ = some (.slice (some ad569) l0_1.length c0_1) := (blk_cell BK568.out 1).trans rfl; have hfz18_0 := blk_frozen BK568.out 0; have hfz18_1 := blk_frozen BK568.out 1; have p571 : 0 ≤ ((Go.bits .andNot .i64 a1 (ji13)) : Int) := of_decide_eq_true (by first | (with_reducible assumption) | assumption); have q571 : (Go.bits .andNot .i64 a1 (ji13)) < (l0_1.length : Int) := of_decide_eq_true (by first | (with_reducible assumption) | assumption); obtain ⟨ad571, e571, hx571_0⟩ := Kd.at_bool HR0_1.out (Go.bits .andNot .i64 a1 (ji13)) p571 q571; (try rw [← Nbq5.out] at hx571_0); (try rw [← Nbq16.out] at hx571_0); obtain rfl : ad569 = ad571 := (by injection e571); replace hx571_0 := (HB.out.cell (World.block_lt_of_cell? w _ hx571_0)).trans hx571_0; replace p571 := eq_true p571; replace q571 := eq_true q571))
            repeat (go_quiet (first | (go_at_call 118; (with_reducible refine (impl_has.calls a1 x14_1 true _ A10.out).mono ?_); rintro e w' ⟨rfl, ⟨nd, rfl⟩⟩; (try first | exact ⟨rfl, _, World.drewN_drewN _ _ _⟩ | exact ⟨rfl, _, Eq.trans (World.drewN_drewN _ _ _) (congrArg (World.drewN _) (Nat.add_assoc _ _ _))⟩); have hcz18_0 : wr.cell? ⟨gb568, 0, none⟩ = some (.int .i64 a0_0) := (blk_cell BK568.out 0).trans rfl; have hcz18_1 : wr.cell? ⟨gb568, 1, none⟩ = some (.slice (some ad569) l0_1.length c0_1) := (blk_cell BK568.out 1).trans rfl; have hfz18_0 := blk_frozen BK568.out 0; have hfz18_1 := blk_frozen BK568.out 1; have p571 : 0 ≤ ((Go.bits .andNot .i64 a1 (ji13)) : Int) := of_decide_eq_true (by first | (with_reducible assumption) | assumption); have q571 : (Go.bits .andNot .i64 a1 (ji13)) < (l0_1.length : Int) := of_decide_eq_true (by first | (with_reducible assumption) | assumption); obtain ⟨ad571, e571, hx571_0⟩ := Kd.at_bool HR0_1.out (Go.bits .andNot .i64 a1 (ji13)) p571 q571; (try rw [← Nbq5.out] at hx571_0); (try rw [← Nbq16.out] at hx571_0); obtain rfl : ad569 = ad571 := (by injection e571); replace hx571_0 := (HB.out.cell (World.block_lt_of_cell? w _ hx571_0)).trans hx571_0; replace p571 := eq_true p571; replace q571 := eq_true q571)); try go_wp2_with (first | (go_at_call 118; (with_reducible refine (impl_has.calls a1 x14_1 true _ A10.out).mono ?_); rintro e w' ⟨rfl, ⟨nd, rfl⟩⟩; (try first | exact ⟨rfl, _, World.drewN_drewN _ _ _⟩ | exact ⟨rfl, _, Eq.trans (World.drewN_drewN _ _ _) (congrArg (World.drewN _) (Nat.add_assoc _ _ _))⟩); have hcz18_0 : wr.cell? ⟨gb568, 0, none⟩ = some (.int .i64 a0_0) := (blk_cell BK568.out 0).trans rfl; have hcz18_1 : wr.cell? ⟨gb568, 1, none⟩ = some (.slice (some ad569) l0_1.length c0_1) := (blk_cell BK568.out 1).trans rfl; have hfz18_0 := blk_frozen BK568.out 0; have hfz18_1 := blk_frozen BK568.out 1; have p571 : 0 ≤ ((Go.bits .andNot .i64 a1 (ji13)) : Int) := of_decide_eq_true (by first | (with_reducible assumption) | assumption); have q571 : (Go.bits .andNot .i64 a1 (ji13)) < (l0_1.length : Int) := of_decide_eq_true (by first | (with_reducible assumption) | assumption); obtain ⟨ad571, e571, hx571_0⟩ := Kd.at_bool HR0_1.out (Go.bits .andNot .i64 a1 (ji13)) p571 q571; (try rw [← Nbq5.out] at hx571_0); (try rw [← Nbq16.out] at hx571_0); obtain rfl : ad569 = ad571 := (by injection e571); replace hx571_0 := (HB.out.cell (World.block_lt_of_cell? w _ hx571_0)).trans hx571_0; replace p571 := eq_true p571; replace q571 := eq_true q571)))
            go_ret
            exact ⟨by first | rfl | (simp [errW_none, errW_some] <;> rfl) | (simp only [← hji13]; first | rfl | (simp [errW_none, errW_some] <;> rfl)) | (simp [*, errW_none, errW_some] <;> rfl), by repeat (first | (with_reducible first | exact HB.out | apply below_alloc | apply pw_below_drewN | apply below_drew1 | refine below_set ?_ GE568.out) | exact HB.out)⟩
           ·replace c17 := Bool.eq_false_iff.mpr c17
            subst c17
            have H1 : (impl_votes_isLeast.l0 k1 a1 a0_0 (wrap64 (x14_1 + 1)) a0_0 l0_1) = some r := by rw [if_neg (show ¬ (false = true) by decide)] at H; exact H
            clear H
            have H := H1
            clear H1
            have H' := Aside0.mk H
            clear H
            go_wp2_with (first | (go_at_call 118; (with_reducible refine (impl_has.calls a1 x14_1 true _ A10.out).mono ?_); rintro e w' ⟨rfl, ⟨nd, rfl⟩⟩; (try first | exact ⟨rfl, _, World.drewN_drewN _ _ _⟩ | exact ⟨rfl, _, Eq.trans (World.drewN_drewN _ _ _) (congrArg (World.drewN _) (Nat.add_assoc _ _ _))⟩); have hcz19_0 : wr.cell? ⟨gb568, 0, none⟩ = some (.int .i64 a0_0) := (blk_cell BK568.out 0).trans rfl; have hcz19_1 : wr.cell? ⟨gb568, 1, none⟩ = some (.slice (some ad569) l0_1.length c0_1) := (blk_cell BK568.out 1).trans rfl; have hfz19_0 := blk_frozen BK568.out 0; have hfz19_1 := blk_frozen BK568.out 1; have p571 : 0 ≤ ((Go.bits .andNot .i64 a1 (ji13)) : Int) := of_decide_eq_true (by first | (with_reducible assumption) | assumption); have q571 : (Go.bits .andNot .i64 a1 (ji13)) < (l0_1.length : Int) := of_decide_eq_true (by first | (with_reducible assumption) | assumption); obtain ⟨ad571, e571, hx571_0⟩ := Kd.at_bool HR0_1.out (Go.bits .andNot .i64 a1 (ji13)) p571 q571; (try rw [← Nbq5.out] at hx571_0); (try rw [← Nbq16.out] at hx571_0); obtain rfl : ad569 = ad571 := (by injection e571); replace hx571_0 := (HB.out.cell (World.block_lt_of_cell? w _ hx571_0)).trans hx571_0; replace p571 := eq_true p571; replace q571 := eq_true q571))
            repeat (go_quiet (first | (go_at_call 118; (with_reducible refine (impl_has.calls a1 x14_1 true _ A10.out).mono ?_); rintro e w' ⟨rfl, ⟨nd, rfl⟩⟩; (try first | exact ⟨rfl, _, World.drewN_drewN _ _ _⟩ | exact ⟨rfl, _, Eq.trans (World.drewN_drewN _ _ _) (congrArg (World.drewN _) (Nat.add_assoc _ _ _))⟩); have hcz19_0 : wr.cell? ⟨gb568, 0, none⟩ = some (.int .i64 a0_0) := (blk_cell BK568.out 0).trans rfl; have hcz19_1 : wr.cell? ⟨gb568, 1, none⟩ = some (.slice (some ad569) l0_1.length c0_1) := (blk_cell BK568.out 1).trans rfl; have hfz19_0 := blk_frozen BK568.out 0; have hfz19_1 := blk_frozen BK568.out 1; have p571 : 0 ≤ ((Go.bits .andNot .i64 a1 (ji13)) : Int) := of_decide_eq_true (by first | (with_reducible assumption) | assumption); have q571 : (Go.bits .andNot .i64 a1 (ji13)) < (l0_1.length : Int) := of_decide_eq_true (by first | (with_reducible assumption) | assumption); obtain ⟨ad571, e571, hx571_0⟩ := Kd.at_bool HR0_1.out (Go.bits .andNot .i64 a1 (ji13)) p571 q571; (try rw [← Nbq5.out] at hx571_0); (try rw [← Nbq16.out] at hx571_0); obtain rfl : ad569 = ad571 := (by injection e571); replace hx571_0 := (HB.out.cell (World.block_lt_of_cell? w _ hx571_0)).trans hx571_0; replace p571 := eq_true p571; replace q571 := eq_true q571)); try go_wp2_with (first | (go_at_call 118; (with_reducible refine (impl_has.calls a1 x14_1 true _ A10.out).mono ?_); rintro e w' ⟨rfl, ⟨nd, rfl⟩⟩; (try first | exact ⟨rfl, _, World.drewN_drewN _ _ _⟩ | exact ⟨rfl, _, Eq.trans (World.drewN_drewN _ _ _) (congrArg (World.drewN _) (Nat.add_assoc _ _ _))⟩); have hcz19_0 : wr.cell? ⟨gb568, 0, none⟩ = some (.int .i64 a0_0) := (blk_cell BK568.out 0).trans rfl; have hcz19_1 : wr.cell? ⟨gb568, 1, none⟩ = some (.slice (some ad569) l0_1.length c0_1) := (blk_cell BK568.out 1).trans rfl; have hfz19_0 := blk_frozen BK568.out 0; have hfz19_1 := blk_frozen BK568.out 1; have p571 : 0 ≤ ((Go.bits .andNot .i64 a1 (ji13)) : Int) := of_decide_eq_true (by first | (with_reducible assumption) | assumption); have q571 : (Go.bits .andNot .i64 a1 (ji13)) < (l0_1.length : Int) := of_decide_eq_true (by first | (with_reducible assumption) | assumption); obtain ⟨ad571, e571, hx571_0⟩ := Kd.at_bool HR0_1.out (Go.bits .andNot .i64 a1 (ji13)) p571 q571; (try rw [← Nbq5.out] at hx571_0); (try rw [← Nbq16.out] at hx571_0); obtain rfl : ad569 = ad571 := (by injection e571); replace hx571_0 := (HB.out.cell (World.block_lt_of_cell? w _ hx571_0)).trans hx571_0; replace p571 := eq_true p571; replace q571 := eq_true q571)))
            go_roundg k1
            case measure => have := HK1.out; omega
            case rel => exact ⟨(wrap64 (x14_1 + 1)), (by first | rfl | (simp; done) | (simp [*]; done)), H', ⟨by have := HK1.out; omega⟩, ⟨by (with_reducible repeat (first | refine blk_drewN ?_ _ | refine blk_drew ?_ | refine blk_alloc ?_ _)); exact BK568.out⟩, ⟨by repeat (first | (with_reducible first | exact HB.out | apply below_alloc | apply pw_below_drewN | apply below_drew1 | refine below_set ?_ GE568.out) | exact HB.out)⟩⟩
          ·rw [if_neg c15] at H
           exact absurd H (by simp)
         ·rw [if_neg c14] at H
          exact absurd H (by simp)
        ·rw [if_neg c12] at H
         exact absurd H (by simp)
       ·replace c11 := Bool.eq_false_iff.mpr c11
        subst c11
        have H1 : (impl_votes_isLeast.l0 k1 a1 a0_0 (wrap64 (x14_1 + 1)) a0_0 l0_1) = some r := by rw [if_neg (show ¬ (false = true) by decide)] at H; exact H
        clear H
        have H := H1
        clear H1
        have H' := Aside0.mk H
        clear H
        go_wp2_with (first | (go_at_call 118; (with_reducible refine (impl_has.calls a1 x14_1 false _ A10.out).mono ?_); rintro e w' ⟨rfl, ⟨nd, rfl⟩⟩; (try first | exact ⟨rfl, _, World.drewN_drewN _ _ _⟩ | exact ⟨rfl, _, Eq.trans (World.drewN_drewN _ _ _) (congrArg (World.drewN _) (Nat.add_assoc _ _ _))⟩)))
        repeat (go_quiet (first | (go_at_call 118; (with_reducible refine (impl_has.calls a1 x14_1 false _ A10.out).mono ?_); rintro e w' ⟨rfl, ⟨nd, rfl⟩⟩; (try first | exact ⟨rfl, _, World.drewN_drewN _ _ _⟩ | exact ⟨rfl, _, Eq.trans (World.drewN_drewN _ _ _) (congrArg (World.drewN _) (Nat.add_assoc _ _ _))⟩))); try go_wp2_with (first | (go_at_call 118; (with_reducible refine (impl_has.calls a1 x14_1 false _ A10.out).mono ?_); rintro e w' ⟨rfl, ⟨nd, rfl⟩⟩; (try first | exact ⟨rfl, _, World.drewN_drewN _ _ _⟩ | exact ⟨rfl, _, Eq.trans (World.drewN_drewN _ _ _) (congrArg (World.drewN _) (Nat.add_assoc _ _ _))⟩))))
        go_roundg k1
        case measure => have := HK1.out; omega
        case rel => exact ⟨(wrap64 (x14_1 + 1)), (by first | rfl | (simp; done) | (simp [*]; done)), H', ⟨by have := HK1.out; omega⟩, ⟨by (with_reducible repeat (first | refine blk_drewN ?_ _ | refine blk_drew ?_ | refine blk_alloc ?_ _)); exact BK568.out⟩, ⟨by repeat (first | (with_reducible first | exact HB.out | apply below_alloc | apply pw_below_drewN | apply below_drew1 | refine below_set ?_ GE568.out) | exact HB.out)⟩⟩
      ·rw [if_neg c9] at H
       have c9b0 : decide (x14_1 < a0_0) = false := decide_eq_false c9
       clear c9
       obtain rfl := Option.some.inj H
       go_wp2
       repeat (go_quiet (fail); try go_wp2)
       go_ret
       exact ⟨by first | rfl | (simp [errW_none, errW_some] <;> rfl) | (simp [*, errW_none, errW_some] <;> rfl), by repeat (first | (with_reducible first | exact HB.out | apply below_alloc | apply pw_below_drewN | apply below_drew1 | refine below_set ?_ GE568.out) | exact HB.out)⟩
   ·replace c6 := Bool.eq_false_iff.mpr c6
    subst c6
    have H1 : (some false) = some r := by rw [if_neg (show ¬ (false = true) by decide)] at H; exact H
    clear H
    have H := H1
    clear H1
    obtain rfl := Option.some.inj H
    go_enter Tryz.func163, Tryz.ntmps163
    go_wp2_with (first | ((with_reducible refine gate_dst (N := 2) rfl ?_); refine box_event ?hg (N := 2) ?hd (cs := #[.int .i64 a0_0, .slice A0_1 l0_1.length c0_1]) (t := 68) ?hr ?_; (case hd => rfl); (case hg => rfl); (case hr => first | (go_simp; done) | (go_simp; rfl)); intro gb568 hg w20 hbox hb; have n0_ := Aside0.mk (below_step (by repeat (first | (with_reducible first | exact HB.out | apply below_alloc | apply pw_below_drewN | apply below_drew1) | exact HB.out)) hb); have n1_ := Aside0.mk (hbox); have n2_ := Aside0.mk ((by rw [hg]; exact (below_size (by repeat (first | (with_reducible first | exact HB.out | apply below_alloc | apply pw_below_drewN | apply below_drew1) | exact HB.out))) : w.heap.size ≤ gb568)); have n3_ := Aside0.mk ((by rw [hg]; exact (below_size (by repeat (first | (with_reducible first | exact HB.out | apply below_alloc | apply pw_below_drewN | apply below_drew1) | exact HB.out))) : w.heap.size ≤ gb568)); clear HB; have HB := n0_; have BK568 := n1_; have GW568 := n2_; have GE568 := n3_; clear n0_ n1_ n2_ n3_; clear hb hbox hg; have hcz21_0 : w20.cell? ⟨gb568, 0, none⟩ = some (.int .i64 a0_0) := (blk_cell BK568.out 0).trans rfl; have hcz21_1 : w20.cell? ⟨gb568, 1, none⟩ = some (.slice A0_1 l0_1.length c0_1) := (blk_cell BK568.out 1).trans rfl; have hfz21_0 := blk_frozen BK568.out 0; have hfz21_1 := blk_frozen BK568.out 1; have p569 : 0 ≤ (a1 : Int) := of_decide_eq_true (by first | (with_reducible assumption) | assumption); have q569 : a1 < (l0_1.length : Int) := of_decide_eq_true (by first | (with_reducible assumption) | assumption); obtain ⟨ad569, e569, hx569_0⟩ := Kd.at_bool HR0_1.out a1 p569 q569; (try rw [← Nbq5.out] at hx569_0); cases e569; replace hx569_0 := (HB.out.cell (World.block_lt_of_cell? w _ hx569_0)).trans hx569_0; replace p569 := eq_true p569; replace q569 := eq_true q569))
    repeat (go_quiet (first | ((with_reducible refine gate_dst (N := 2) rfl ?_); refine box_event ?hg (N := 2) ?hd (cs := #[.int .i64 a0_0, .slice A0_1 l0_1.length c0_1]) (t := 68) ?hr ?_; (case hd => rfl); (case hg => rfl); (case hr => first | (go_simp; done) | (go_simp; rfl)); intro gb568 hg w20 hbox hb; have n0_ := Aside0.mk (below_step (by repeat (first | (with_reducible first | exact HB.out | apply below_alloc | apply pw_below_drewN | apply below_drew1) | exact HB.out)) hb); have n1_ := Aside0.mk (hbox); have n2_ := Aside0.mk ((by rw [hg]; exact (below_size (by repeat (first | (with_reducible first | exact HB.out | apply below_alloc | apply pw_below_drewN | apply below_drew1) | exact HB.out))) : w.heap.size ≤ gb568)); have n3_ := Aside0.mk ((by rw [hg]; exact (below_size (by repeat (first | (with_reducible first | exact HB.out | apply below_alloc | apply pw_below_drewN | apply below_drew1) | exact HB.out))) : w.heap.size ≤ gb568)); clear HB; have HB := n0_; have BK568 := n1_; have GW568 := n2_; have GE568 := n3_; clear n0_ n1_ n2_ n3_; clear hb hbox hg; have hcz21_0 : w20.cell? ⟨gb568, 0, none⟩ = some (.int .i64 a0_0) := (blk_cell BK568.out 0).trans rfl; have hcz21_1 : w20.cell? ⟨gb568, 1, none⟩ = some (.slice A0_1 l0_1.length c0_1) := (blk_cell BK568.out 1).trans rfl; have hfz21_0 := blk_frozen BK568.out 0; have hfz21_1 := blk_frozen BK568.out 1; have p569 : 0 ≤ (a1 : Int) := of_decide_eq_true (by first | (with_reducible assumption) | assumption); have q569 : a1 < (l0_1.length : Int) := of_decide_eq_true (by first | (with_reducible assumption) | assumption); obtain ⟨ad569, e569, hx569_0⟩ := Kd.at_bool HR0_1.out a1 p569 q569; (try rw [← Nbq5.out] at hx569_0); cases e569; replace hx569_0 := (HB.out.cell (World.block_lt_of_cell? w _ hx569_0)).trans hx569_0; replace p569 := eq_true p569; replace q569 := eq_true q569)); try go_wp2_with (first | ((with_reducible refine gate_dst (N := 2) rfl ?_); refine box_event ?hg (N := 2) ?hd (cs := #[.int .i64 a0_0, .slice A0_1 l0_1.length c0_1]) (t := 68) ?hr ?_; (case hd => rfl); (case hg => rfl); (case hr => first | (go_simp; done) | (go_simp; rfl)); intro gb568 hg w20 hbox hb; have n0_ := Aside0.mk (below_step (by repeat (first | (with_reducible first | exact HB.out | apply below_alloc | apply pw_below_drewN | apply below_drew1) | exact HB.out)) hb); have n1_ := Aside0.mk (hbox); have n2_ := Aside0.mk ((by rw [hg]; exact (below_size (by repeat (first | (with_reducible first | exact HB.out | apply below_alloc | apply pw_below_drewN | apply below_drew1) | exact HB.out))) : w.heap.size ≤ gb568)); have n3_ := Aside0.mk ((by rw [hg]; exact (below_size (by repeat (first | (with_reducible first | exact HB.out | apply below_alloc | apply pw_below_drewN | apply below_drew1) | exact HB.out))) : w.heap.size ≤ gb568)); clear HB; have HB := n0_; have BK568 := n1_; have GW568 := n2_; have GE568 := n3_; clear n0_ n1_ n2_ n3_; clear hb hbox hg; have hcz21_0 : w20.cell? ⟨gb568, 0, none⟩ = some (.int .i64 a0_0) := (blk_cell BK568.out 0).trans rfl; have hcz21_1 : w20.cell? ⟨gb568, 1, none⟩ = some (.slice A0_1 l0_1.length c0_1) := (blk_cell BK568.out 1).trans rfl; have hfz21_0 := blk_frozen BK568.out 0; have hfz21_1 := blk_frozen BK568.out 1; have p569 : 0 ≤ (a1 : Int) := of_decide_eq_true (by first | (with_reducible assumption) | assumption); have q569 : a1 < (l0_1.length : Int) := of_decide_eq_true (by first | (with_reducible assumption) | assumption); obtain ⟨ad569, e569, hx569_0⟩ := Kd.at_bool HR0_1.out a1 p569 q569; (try rw [← Nbq5.out] at hx569_0); cases e569; replace hx569_0 := (HB.out.cell (World.block_lt_of_cell? w _ hx569_0)).trans hx569_0; replace p569 := eq_true p569; replace q569 := eq_true q569)))
    go_ret
    exact ⟨by first | rfl | (simp [errW_none, errW_some] <;> rfl) | (simp [*, errW_none, errW_some] <;> rfl), by repeat (first | (with_reducible first | exact HB.out | apply below_alloc | apply pw_below_drewN | apply below_drew1 | refine below_set ?_ GE568.out) | exact HB.out)⟩
  ·rw [if_neg c4] at H
   exact absurd H (by simp)
 ·rw [if_neg c3] at H
  exact absurd H (by simp)
end Go.Proofs.YtnncjnjfdhbddaaGreat.Z
namespace Go.Proofs.YtnncjnjfdhbddaaGreat.Z
open Go.RowKit Go.Proofs.YtnncjnjfdhbddaaGreatW.PrintWords Go.Proofs.YtnncjnjfdhbddaaGreatW.PrintLast Go.Proofs.YtnncjnjfdhbddaaGreatW.PrintMore
attribute [local go_sem] max2_int min2_int max_two min_two max_three min_three max_four min_four
set_option linter.unusedVariables false
set_option linter.unusedSimpArgs false
def leastB (n : Nat) (wins : List Bool) (m : Nat) : Bool := wins.getD m false && (List.range n).all fun i => !(m.testBit i && wins.getD (m - 2 ^ i) false)
def leastFrom (n : Nat) (wins : List Bool) (m i : Nat) : Bool := ((List.range n).drop i).all fun i => !(m.testBit i && wins.getD (m - 2 ^ i) false)
theorem leastFrom_step (n : Nat) (wins : List Bool) (m i : Nat) (h : i < n) : leastFrom n wins m i = (!(m.testBit i && wins.getD (m - 2 ^ i) false) && leastFrom n wins m (i + 1)) := by
 unfold leastFrom
 rw [List.drop_eq_getElem_cons (by simpa using h)]
 simp
theorem leastFrom_end (n : Nat) (wins : List Bool) (m : Nat) : leastFrom n wins m n = true := by
 rw [leastFrom, List.drop_of_length_le (by simp)]
 rfl
theorem isLeast_l0 (n : Nat) (hn : n ≤ 9) (a0 : Int) (wins : List Bool) (hw : wins.length = 2 ^ n) (m : Nat) (hm : m < 2 ^ n) : ∀ (d k i : Nat), n - i = d → i ≤ n → d < k →
  impl_votes_isLeast.l0 k (m : Int) (n : Int) (i : Int) a0 wins = some (leastFrom n wins m i) := by
 have h512 := pow_le9 hn
 intro d
 induction d with
 | zero =>
  intro k i hd hi hk
  obtain ⟨k, rfl⟩ : ∃ m, k = m + 1 := ⟨k - 1, by omega⟩
  obtain rfl : i = n := by omega
  simp only [impl_votes_isLeast.l0]
  rw [if_neg (by omega), leastFrom_end]
 | succ d ih =>
  intro k i hd hi hk
  obtain ⟨k, rfl⟩ : ∃ m, k = m + 1 := ⟨k - 1, by omega⟩
  have hlt : i < n := by omega
  simp only [impl_votes_isLeast.l0]
  have ih1 := ih k (i + 1) (by omega) (by omega) (by omega)
  have e1 : wrap64 ((i : Int) + 1) = ((i + 1 : Nat) : Int) := by unfold wrap64; omega
  rw [if_pos (by omega), has_eq m i (by omega) (by omega), leastFrom_step n wins m i hlt, e1, ih1]
  simp only [Option.bind_some]
  cases hb : m.testBit i with
  | false => simp
  | true =>
   have hle : m - 2 ^ i ≤ m := Nat.sub_le _ _
   generalize hx : m - 2 ^ i = x at hle
   have hce := clear_eq m i (by omega) (by omega) hb
   rw [hx] at hce
   rw [if_pos rfl, if_pos (by omega), hce, if_pos (by omega), if_pos (by omega)]
   have e2 : rdOf false wins (x : Int) = wins.getD x false := by simp [rdOf]
   rw [e2]
   cases wins.getD x false <;> simp
theorem isLeast_f (n : Nat) (hn : n ≤ 9) (wins : List Bool) (hw : wins.length = 2 ^ n) (m : Nat) (hm : m < 2 ^ n) : impl_votes_isLeast.f (n + 1) (n : Int) wins (m : Int) = some (leastB n wins m) := by
 unfold impl_votes_isLeast.f leastB
 rw [if_pos (by omega), if_pos (by omega)]
 have e2 : rdOf false wins (m : Int) = wins.getD m false := by simp [rdOf]
 rw [e2]
 cases wins.getD m false with
 | false => simp
 | true =>
  rw [if_pos rfl]
  have := isLeast_l0 n hn (n : Int) wins hw m hm n (n + 1) 0 (by omega) (by omega) (by omega)
  simp only [Bool.true_and]
  exact this
end Go.Proofs.YtnncjnjfdhbddaaGreat.Z
namespace Go.Proofs.YtnncjnjfdhbddaaGreat.Z
open Go.RowKit Go.Proofs.YtnncjnjfdhbddaaGreatW.PrintWords Go.Proofs.YtnncjnjfdhbddaaGreatW.PrintLast Go.Proofs.YtnncjnjfdhbddaaGreatW.PrintMore
attribute [local go_sem] max2_int min2_int max_two min_two max_three min_three max_four min_four
set_option linter.unusedVariables false
set_option linter.unusedSimpArgs false
def leastSets (n : Nat) (wins : List Bool) : List (List Int) := sortC cmpL (partS (leastB n wins) wins.length)
def vOk (a0 : Int) (wins : List Bool) : Bool := decide (0 ≤ a0 ∧ a0 ≤ 9 ∧ wins.length = 2 ^ a0.toNat)
set_option maxHeartbeats 1000000 in
theorem least_any (n : Nat) (hn : n ≤ 9) (A : Option Addr) (c : Nat) (wins : List Bool) (hw : wins.length = 2 ^ n) (w : World) (hr : Kd.C Kd.bool w A wins.length wins) (hc : wins.length ≤ c) :
  Calls Tryz.prog 146 #[.agg #[.int .i64 (n : Int), .slice A wins.length c]] w fun e w' => ∃ v : Value, e = .returned v ∧ Kd.S (Kd.slice 3 (Kd.int .i64)) 36 w' w.heap.size (fun _ => True) v (leastSets n wins) ∧ Below w.heap.size w w' := by
 have hu68 := Tryz.underlying68
 have eg : ∀ args w, (callFunc 163 args).run Tryz.prog w = .ok (.enter 163 args) w := enters_of Tryz.func163 (by kernel_rfl) rfl
 have h512 := pow_le9 hn
 have hS := fun (W : World) (hb : Below w.heap.size w W) => sets_any (sortC cmpL) sortsSets_ok (n : Int) A c wins (by omega) (leastB n wins) 163 #[.agg #[.int .i64 (n : Int), .slice A wins.length c]] #[] W eg
  (fun W' m hm hb' => impl_votes_isLeast.calls (n + 1) (n : Int) A c wins (m : Int) _ W' (Kd.C_below (Kd.C_below hr hb) hb') hc (isLeast_f n hn wins hw m (by omega)))
 change ∀ W (hb : Below w.heap.size w W), Calls Tryz.prog 98 _ W fun e w' => ∃ v : Value, e = .returned v ∧ Kd.S (Kd.slice 3 (Kd.int .i64)) 36 w' W.heap.size (fun _ => True) v (leastSets n wins) ∧ Below W.heap.size W w' at hS
 have HS := Aside0.mk hS
 clear hS hr hc eg
 generalize leastSets n wins = ls at HS ⊢
 clear hw
 generalize wins.length = N at *
 go_enter Tryz.func146, Tryz.ntmps146
 go_wp2_with (go_at_call 98; refine (HS.out _ ((Below.refl _ _).alloc (Nat.le_refl _) _)).mono ?_; rintro e w1 ⟨v1, rfl, ho, hb⟩; have HO1 := Aside0.mk ho; have HB1 := Aside0.mk hb; clear ho hb)
 go_ret
 exact ⟨_, rfl, Kd.S_lower HO1.out (by simp), Below.trans ((Below.refl _ _).alloc (Nat.le_refl _) _) (HB1.out.mono (by simp))⟩
def impl_votes_least.f (a0_0 : Int) (l0_1 : List Bool) : Option ((List (List Int))) := if vOk a0_0 l0_1 = true then some (leastSets a0_0.toNat l0_1) else none
theorem impl_votes_least.calls (a0_0 : Int) (A0_1 : Option Addr) (c0_1 : Nat) (l0_1 : List Bool) (r : List (List Int)) (w : World) (hr0_1 : Kd.C Kd.bool w A0_1 l0_1.length l0_1) (hc0_1 : l0_1.length ≤ c0_1) (h : impl_votes_least.f a0_0 l0_1 = some r) :
  Calls Tryz.prog 146 #[.agg #[.int .i64 a0_0, .slice A0_1 l0_1.length c0_1]] w fun e w' => ∃ v0_ : Value, e = .returned (v0_) ∧ Kd.S (Kd.slice 3 (Kd.int .i64)) 36 w' w.heap.size (fun _ => True) v0_ r ∧ Below w.heap.size w w' := by
 unfold impl_votes_least.f vOk at h
 split at h
 ·rename_i h1
  have h1 := of_decide_eq_true h1
  obtain rfl := Option.some.inj h
  obtain ⟨n, rfl⟩ := Int.eq_ofNat_of_zero_le h1.1
  have h2 := h1.2.1
  have h3 := h1.2.2
  rw [Int.toNat_natCast] at h3 ⊢
  exact least_any n (by omega) A0_1 c0_1 l0_1 h3 w hr0_1 hc0_1
 ·cases h
end Go.Proofs.YtnncjnjfdhbddaaGreat.Z
namespace Go.Proofs.YtnncjnjfdhbddaaGreat.Z
open Go.RowKit Go.Proofs.YtnncjnjfdhbddaaGreatW.PrintWords Go.Proofs.YtnncjnjfdhbddaaGreatW.PrintLast Go.Proofs.YtnncjnjfdhbddaaGreatW.PrintMore
attribute [local go_sem] max2_int min2_int max_two min_two max_three min_three max_four min_four
set_option linter.unusedVariables false
set_option linter.unusedSimpArgs false
def impl_votes_game.f (a0_0 : Int) (l0_1 : List Bool) : Option (Int × (List (List Int))) := (impl_votes_least.f a0_0 l0_1).bind fun t659 => (some (a0_0, t659))
set_option maxHeartbeats 8000000 in
set_option maxRecDepth 100000 in
theorem impl_votes_game.calls (a0_0 : Int) (A0_1 : Option Addr) (c0_1 : Nat) (l0_1 : List Bool) (r1 : Int) (r2 : List (List Int)) (w : World) (hr0_1 : Kd.C Kd.bool w A0_1 l0_1.length l0_1) (hc0_1 : l0_1.length ≤ c0_1) (h : impl_votes_game.f a0_0 l0_1 = some (r1, r2)) :
  Calls Tryz.prog 120 #[.agg #[.int .i64 a0_0, .slice A0_1 l0_1.length c0_1]] w fun e w' => ∃ v1_ : Value, e = .returned (.agg #[.int .i64 r1, v1_]) ∧ Kd.S (Kd.slice 3 (Kd.int .i64)) 36 w' w.heap.size (fun _ => True) v1_ r2 ∧ Below w.heap.size w w' := by
 have hu68 := Tryz.underlying68
 have hu28 := Tryz.underlying28
 have HR0_1 := Aside0.mk hr0_1
 have HC0_1 := Aside0.mk hc0_1
 clear hr0_1 hc0_1
 have HB := Aside0.mk (Below.refl w.heap.size w)
 have H : ((impl_votes_least.f a0_0 l0_1).bind fun t659 => (some (a0_0, t659))) = some (r1, r2) := h
 clear h
 replace H := Option.bind_eq_some_iff.mp H
 obtain ⟨t659, A20, H⟩ := H
 replace H : (some (a0_0, t659)) = some (r1, r2) := H
 have A2 := Aside0.mk A20
 clear A20
 simp only [Option.some.injEq, Prod.mk.injEq] at H
 obtain ⟨rfl, rfl⟩ := H
 go_enter Tryz.func120, Tryz.ntmps120
 try go_wp2_with (first | ((with_reducible refine gate_dst (N := 1) rfl ?_); refine box_event ?hg (N := 1) ?hd (cs := #[.int .i64 a0_0, .slice A0_1 l0_1.length c0_1]) (t := 68) ?hr ?_; (case hd => rfl); (case hg => rfl); (case hr => first | (go_simp; done) | (go_simp; rfl)); intro gb657 hg w3 hbox hb; have n0_ := Aside0.mk (below_step (by repeat (first | (with_reducible first | exact HB.out | apply below_alloc | apply pw_below_drewN | apply below_drew1) | exact HB.out)) hb); have n1_ := Aside0.mk (hbox); have n2_ := Aside0.mk ((by rw [hg]; exact (below_size (by repeat (first | (with_reducible first | exact HB.out | apply below_alloc | apply pw_below_drewN | apply below_drew1) | exact HB.out))) : w.heap.size ≤ gb657)); have n3_ := Aside0.mk ((by rw [hg]; exact (below_size (by repeat (first | (with_reducible first | exact HB.out | apply below_alloc | apply pw_below_drewN | apply below_drew1) | exact HB.out))) : w.heap.size ≤ gb657)); clear HB; have HB := n0_; have BK657 := n1_; have GW657 := n2_; have GE657 := n3_; clear n0_ n1_ n2_ n3_; clear hb hbox hg) | ((with_reducible refine gate_dst (N := 2) rfl ?_); refine box_event ?hg (N := 2) ?hd (cs := #[.int .i64 0, .slice none 0 0]) (t := 28) ?hr ?_; (case hd => rfl); (case hg => rfl); (case hr => first | (go_simp; done) | (go_simp; rfl)); intro gb658 hg w4 hbox hb; have n0_ := Aside0.mk (blk_below (g := gb657) (o := .cells #[.int .i64 a0_0, .slice A0_1 l0_1.length c0_1] 68 (0, 0)) (by (with_reducible repeat (first | refine blk_drewN ?_ _ | refine blk_drew ?_ | refine blk_alloc ?_ _)); exact BK657.out) hb); have n1_ := Aside0.mk (below_step (by repeat (first | (with_reducible first | exact HB.out | apply below_alloc | apply pw_below_drewN | apply below_drew1 | refine below_set ?_ GE657.out) | exact HB.out)) hb); have n2_ := Aside0.mk (hbox); have n3_ := Aside0.mk ((by rw [hg]; exact (below_size (by repeat (first | (with_reducible first | exact HB.out | apply below_alloc | apply pw_below_drewN | apply below_drew1 | refine below_set ?_ GE657.out) | exact HB.out))) : w.heap.size ≤ gb658)); have n4_ := Aside0.mk ((by rw [hg]; exact (below_size (by repeat (first | (with_reducible first | exact HB.out | apply below_alloc | apply pw_below_drewN | apply below_drew1 | refine below_set ?_ GE657.out) | exact HB.out))) : w.heap.size ≤ gb658)); have n5_ := Aside0.mk ((by rw [hg]; exact Nat.ne_of_lt (blk_lt (g := gb657) (o := .cells #[.int .i64 a0_0, .slice A0_1 l0_1.length c0_1] 68 (0, 0)) (by (with_reducible repeat (first | refine blk_drewN ?_ _ | refine blk_drew ?_ | refine blk_alloc ?_ _)); exact BK657.out)) : gb657 ≠ gb658)); have n6_ := Aside0.mk ((by rw [hg]; exact Nat.ne_of_gt (blk_lt (g := gb657) (o := .cells #[.int .i64 a0_0, .slice A0_1 l0_1.length c0_1] 68 (0, 0)) (by (with_reducible repeat (first | refine blk_drewN ?_ _ | refine blk_drew ?_ | refine blk_alloc ?_ _)); exact BK657.out)) : gb658 ≠ gb657)); clear BK657; clear HB; have BK657 := n0_; have HB := n1_; have BK658 := n2_; have GW658 := n3_; have GE658 := n4_; have NB657_658 := n5_; have NB658_657 := n6_; clear n0_ n1_ n2_ n3_ n4_ n5_ n6_; clear hb hbox hg))
 have n0_ := Aside0.mk (blk_drew BK657.out)
 have n1_ := Aside0.mk (blk_drew BK658.out)
 have n2_ := Aside0.mk (below_drew1 HB.out)
 clear BK657
 clear BK658
 clear HB
 have BK657 := n0_
 have BK658 := n1_
 have HB := n2_
 clear n0_ n1_ n2_
 refine start_ (n := 6) (S := fun w' => w'.cell? ⟨gb657, 0, none⟩ = some (.int .i64 a0_0) ∧ w'.cell? ⟨gb657, 1, none⟩ = some (.slice A0_1 l0_1.length c0_1)) (ds := []) #[false, false, false, false, false, false] (by kernel_rfl) rfl rfl ⟨(blk_cell BK657.out 0).trans rfl, (blk_cell BK657.out 1).trans rfl⟩ (fun hHeld => ?_)
 generalize w4.drew = w5 at BK657 BK658 HB hHeld ⊢
 refine pure_ (i := 0) (N := some 3) (v := ?_) (a' := ?_) #[true, false, false, false, false, false] rfl rfl (by kernel_rfl) (fun _ _ _ h => h) (Or.inl ⟨by rfl, ?_⟩) ?_ ?_
 rotate_left
 ·intro w'
  go_simp
  with_reducible rfl
 rotate_left
 ·simp only [Act.put, List.setIfInBounds_toArray, List.set_cons_zero, List.set_cons_succ, i64_w, i32_w]
  rfl
 refine take_ (i := 1) (N := some 4) (v := ?_) (a' := ?_) #[true, true, false, false, false, false] rfl rfl (by kernel_rfl) (fun _ _ _ h => h) (Or.inl ⟨by rfl, ?_⟩) hHeld ?_ ?_
 rotate_left
 ·rintro w' ⟨s0, s1⟩
  go_simp
  with_reducible rfl
 rotate_left
 ·simp only [Act.put, List.setIfInBounds_toArray, List.set_cons_zero, List.set_cons_succ, i64_w, i32_w]
  rfl
 refine take_ (i := 2) (N := some 5) (v := ?_) (a' := ?_) #[true, true, true, false, false, false] rfl rfl (by kernel_rfl) (fun _ _ _ h => h) (Or.inl ⟨by rfl, ?_⟩) hHeld ?_ ?_
 rotate_left
 ·rintro w' ⟨s0, s1⟩
  go_simp
  with_reducible rfl
 rotate_left
 ·simp only [Act.put, List.setIfInBounds_toArray, List.set_cons_zero, List.set_cons_succ, i64_w, i32_w]
  rfl
 refine one_ (i := 3) (N := some 6) #[true, true, true, true, false, false] rfl rfl (by kernel_rfl) (by decide) (fun K hK => ?_)
 refine goes_ Tryz.func146 (by kernel_rfl) rfl #[.agg #[.int .i64 a0_0, .slice A0_1 l0_1.length c0_1]] (by rfl) rfl rfl (by (try simp only [List.map_toArray, List.map_cons, List.map_nil]); first | done | rfl | (simp only [List.length_drop, List.length_take]; rfl)) ?_
 with_reducible refine (impl_votes_least.calls a0_0 _ _ l0_1 t659 _ ?side1 ?side2 A2.out).mono ?_
 (case side1 => repeat (first | exact (Kd.C_below HR0_1.out HB.out) | (with_reducible refine Kd.C_alloc ?_ _) | (with_reducible refine Kd.C_drewN ?_ _) | (with_reducible refine Kd.C_drew ?_)))
 (case side2 => exact HC0_1.out)
 rintro e w6 ⟨v660, rfl, ho0, hb⟩
 refine ⟨_, rfl, ?_⟩
 have n0_ := Aside0.mk (Kd.S_lower ho0 (below_size (by repeat (first | (with_reducible first | exact HB.out | apply below_alloc | apply pw_below_drewN | apply below_drew1 | refine below_set ?_ GE657.out | refine below_set ?_ GE658.out) | exact HB.out))))
 have n1_ := Aside0.mk (blk_below (g := gb657) (o := .cells #[.int .i64 a0_0, .slice A0_1 l0_1.length c0_1] 68 (0, 0)) (by (with_reducible repeat (first | refine blk_drewN ?_ _ | refine blk_drew ?_ | refine blk_alloc ?_ _)); exact BK657.out) hb)
 have n2_ := Aside0.mk (blk_below (g := gb658) (o := .cells #[.int .i64 0, .slice none 0 0] 28 (0, 0)) (by (with_reducible repeat (first | refine blk_drewN ?_ _ | refine blk_drew ?_ | refine blk_alloc ?_ _)); exact BK658.out) hb)
 have n3_ := Aside0.mk (below_step (by repeat (first | (with_reducible first | exact HB.out | apply below_alloc | apply pw_below_drewN | apply below_drew1 | refine below_set ?_ GE657.out | refine below_set ?_ GE658.out) | exact HB.out)) hb)
 clear BK657
 clear BK658
 clear HB
 have HO661 := n0_
 have BK657 := n1_
 have BK658 := n2_
 have HB := n3_
 clear n0_ n1_ n2_ n3_
 (try clear hb)
 (try clear hb2)
 (try clear hk)
 (try clear hi)
 (try clear ho0)
 obtain ⟨Ao7, co7, eo7⟩ := Kd.S_slice HO661.out
 (first | subst eo7 | (injection eo7 with f1_ f2_ f3_; have f4_ := f1_.symm; have f5_ := f3_.symm; clear f1_ f2_ f3_; subst f4_; subst f5_))
 refine hK.out _ _ ⟨(blk_cell BK657.out 0).trans rfl, (blk_cell BK657.out 1).trans rfl⟩ (fun hHeld => ?_)
 clear hK K
 refine norm_ (a' := ?_) ?_ ?_
 rotate_left
 ·show Act.put _ (some 6) _ = _
  simp only [Act.put, List.setIfInBounds_toArray, List.set_cons_zero, List.set_cons_succ, i64_w, i32_w]
  rfl
 refine pure_ (i := 4) (N := some 7) (v := ?_) (a' := ?_) #[true, true, true, true, true, false] rfl rfl (by kernel_rfl) (fun _ _ _ h => h) (Or.inl ⟨by rfl, ?_⟩) ?_ ?_
 rotate_left
 ·intro w'
  go_simp
  with_reducible rfl
 rotate_left
 ·simp only [Act.put, List.setIfInBounds_toArray, List.set_cons_zero, List.set_cons_succ, i64_w, i32_w]
  rfl
 refine one_ (i := 5) (N := none) #[true, true, true, true, true, true] rfl rfl (by kernel_rfl) (by decide) (fun K hK => ?_)
 have hs8 : w6.cell? ⟨gb658, 0, none⟩ = some (.int .i64 0) := (blk_cell BK658.out 0).trans rfl
 have hfs8 := blk_frozen BK658.out 0
 have hns8_0 := NB657_658.out
 have hms8_0 := NB658_657.out
 have hs9 : w6.cell? ⟨gb658, 1, none⟩ = some (.slice none 0 0) := (blk_cell BK658.out 1).trans rfl
 have hfs9 := blk_frozen BK658.out 1
 have hns9_0 := NB657_658.out
 have hms9_0 := NB658_657.out
 refine skip_ (w1 := ?_) (by rfl) rfl ?_ ?_
 rotate_left
 ·go_simp
  rfl
 refine hK.out _ _ ⟨((cell_far (p := ⟨gb658, _, none⟩) NB657_658.out _).trans (((cell_far (p := ⟨gb658, _, none⟩) NB657_658.out _).trans (hHeld.1)))), ((cell_far (p := ⟨gb658, _, none⟩) NB657_658.out _).trans (((cell_far (p := ⟨gb658, _, none⟩) NB657_658.out _).trans (hHeld.2))))⟩ (fun hHeld => ?_)
 clear hK K
 refine done_ (by kernel_rfl) ?_
 try go_wp2
 refine bodyPost_ret (results_cell_row rfl _ _ gb658 28 #[.int .i64 a0_0, .slice Ao7 t659.length co7] (0, 0) _ rfl (by (with_reducible repeat (first | refine blk_drewN ?_ _ | refine blk_drew ?_ | refine blk_alloc ?_ _)); refine blk_put (cs := #[.int .i64 a0_0, .slice none 0 0]) ?_ 1 _ rfl; (with_reducible repeat (first | refine blk_drewN ?_ _ | refine blk_drew ?_ | refine blk_alloc ?_ _)); refine blk_put (cs := #[.int .i64 0, .slice none 0 0]) ?_ 0 _ rfl; (with_reducible repeat (first | refine blk_drewN ?_ _ | refine blk_drew ?_ | refine blk_alloc ?_ _)); exact BK658.out) Tryz.underlying28 rfl (by kernel_rfl)) rfl ?_
 exact ⟨_, by first | rfl | (simp [errW_none, errW_some] <;> rfl) | (simp [*, errW_none, errW_some] <;> rfl), by (with_reducible repeat (first | apply Kd.S_alloc | apply Kd.S_drewN | apply Kd.S_drew)); exact Kd.S_mono (Kd.S_far (p := ⟨gb658, 1, none⟩) (Kd.S_far (p := ⟨gb658, 0, none⟩) (Kd.S_types HO661.out BK658.out (by decide)) (fun _ hk => hk.2) (.int .i64 a0_0)) (fun _ hk => hk.2) (.slice Ao7 t659.length co7)) (fun _ hk => trivial), by repeat (first | (with_reducible first | exact HB.out | apply below_alloc | apply pw_below_drewN | apply below_drew1 | refine below_set ?_ GE657.out | refine below_set ?_ GE658.out) | exact HB.out)⟩
end Go.Proofs.YtnncjnjfdhbddaaGreat.Z
namespace Go.Proofs.YtnncjnjfdhbddaaGreat.Z
open Go.RowKit Go.Proofs.YtnncjnjfdhbddaaGreatW.PrintWords Go.Proofs.YtnncjnjfdhbddaaGreatW.PrintLast Go.Proofs.YtnncjnjfdhbddaaGreatW.PrintMore
attribute [local go_sem] max2_int min2_int max_two min_two max_three min_three max_four min_four
set_option linter.unusedVariables false
set_option linter.unusedSimpArgs false
def bitsB (n t : Nat) : List Bool := (List.range (2 ^ n)).map fun m => t.testBit m
def isTab (n t : Nat) : Bool := !(t.testBit 0) && t.testBit (2 ^ n - 1)
def gameT (n t : Nat) : S28 := ⟨(n : Int), leastSets n (bitsB n t)⟩
def rawG (n : Nat) (l : List Nat) : List S28 := (l.filter (isTab n)).map (gameT n)
theorem rawG_yes (n : Nat) (l : List Nat) (k : Nat) (hk : k < l.length) (h : isTab n (l.getD k 0) = true) : rawG n (l.take (k + 1)) = rawG n (l.take k) ++ [gameT n (l.getD k 0)] := by
 have e : l.take (k + 1) = l.take k ++ [l.getD k 0] := by rw [List.take_succ_eq_append_getElem hk]; simp [List.getD_eq_getElem?_getD, hk]
 rw [e, rawG, List.filter_append, List.map_append, List.filter_cons, if_pos h]
 rfl
theorem rawG_no (n : Nat) (l : List Nat) (k : Nat) (hk : k < l.length) (h : isTab n (l.getD k 0) = false) : rawG n (l.take (k + 1)) = rawG n (l.take k) := by
 have e : l.take (k + 1) = l.take k ++ [l.getD k 0] := by rw [List.take_succ_eq_append_getElem hk]; simp [List.getD_eq_getElem?_getD, hk]
 rw [e, rawG, List.filter_append, List.map_append, List.filter_cons, if_neg (by rw [h]; simp)]
 simp [rawG]
theorem rawG_len (n : Nat) (l : List Nat) : (rawG n l).length ≤ l.length := by
 simp only [rawG, List.length_map]
 exact List.length_filter_le _ _
theorem infoG : (Tryz.prog.info? 28).map (fun i => (i.zero, i.size, i.bytes)) = some (some (.agg #[(.int .i64 0), (.slice none 0 0)]), 2, 32) := by kernel_rfl
theorem bitsB_len (n t : Nat) : (bitsB n t).length = 2 ^ n := by simp [bitsB]
theorem all_val (n : Nat) (h0 : 1 ≤ n) (h : n ≤ 4) (bl : List Bool) : impl_votes_all.f (n : Int) bl = some ((2 ^ n - 1 : Nat) : Int) := by
 have : n = 1 ∨ n = 2 ∨ n = 3 ∨ n = 4 := by omega
 rcases this with h | h | h | h <;> subst h <;> (simp only [impl_votes_all.f]; decide +kernel)
theorem game_val (n t : Nat) (h : n ≤ 4) : impl_votes_game.f (n : Int) (bitsB n t) = some ((n : Int), leastSets n (bitsB n t)) := by
 have h1 : vOk (n : Int) (bitsB n t) = true := by
  simp only [vOk, decide_eq_true_eq, bitsB_len, Int.toNat_natCast]
  exact ⟨by omega, by omega, trivial⟩
 simp only [impl_votes_game.f, impl_votes_least.f, h1, if_true, Option.bind_some, Int.toNat_natCast]
theorem bits_at (n t m : Nat) (h : m < 2 ^ n) : rdOf false (bitsB n t) (m : Int) = t.testBit m := by
 simp [rdOf, bitsB, List.getD_eq_getElem?_getD, h]
theorem allGames_v (n t : Nat) (hn : n ≤ 4) (h0 : 1 ≤ n) (b : Nat) (W : World) (hb : W.cell? ⟨b, 0, none⟩ = some (.int .i64 (t : Int))) (ht : t < 65536)
  (hfn : ∀ (m : Nat) (W' : World), m < 62 → W'.cell? ⟨b, 0, none⟩ = some (.int .i64 (t : Int)) → Calls Tryz.prog 117 #[.int .i64 (m : Int), .pointer (some ⟨b, 0, none⟩)] W' fun e w' => e = .returned (.bool (t.testBit m)) ∧ Below W'.heap.size W' w') :
  Calls Tryz.prog 112 #[.int .i64 (n : Int), .func (.func 117) #[] #[.pointer (some ⟨b, 0, none⟩)]] W fun e w' => ∃ A2 c2, e = .returned (.agg #[.int .i64 (n : Int), .slice A2 (bitsB n t).length c2]) ∧ Kd.C Kd.bool w' A2 (bitsB n t).length (bitsB n t) ∧ (bitsB n t).length ≤ c2 ∧ Below W.heap.size W w' := by
 have eg : ∀ args w, (callFunc 117 args).run Tryz.prog w = .ok (.enter 117 args) w := enters_of Tryz.func117 (by kernel_rfl) rfl
 have hpn : 2 ^ n ≤ 16 := by
  have : n = 1 ∨ n = 2 ∨ n = 3 ∨ n = 4 := by omega
  rcases this with h | h | h | h <;> subst h <;> decide
 refine (votesOf_any n (by omega) (fun m => t.testBit m) 117 #[.pointer (some ⟨b, 0, none⟩)] W eg
    (fun W' m hm hb' => hfn m W' (by omega) ((hb'.cell (World.block_lt_of_cell? W _ hb)).trans hb))).mono ?_
 rintro e w2 ⟨v2, rfl, ho, hb⟩
 change Kd.R Kd.bool 4 w2 W.heap.size _ v2 (bitsB n t) at ho
 obtain ⟨A2, c2, rfl, hl2, hC2⟩ := Kd.R_reads ho
 exact ⟨A2, c2, rfl, hC2, hl2, hb⟩
theorem sortGames_any (W : World) (base : Nat) (A : Option Addr) (c : Nat) (xs : List S28) (hx : xs.length ≤ 100000)
  (hS : Kd.R k28 28 W base (fun _ => True) (.slice A xs.length c) xs) :
  Calls Tryz.prog 121 #[.slice A xs.length c, .func (.func 122) #[] #[]] W fun e w' => e = .returned (.tuple #[]) ∧ ∃ xs', SortedBy cmpLL S28.f1 xs xs' ∧ Kd.R k28 28 w' base (fun _ => True) (.slice A xs.length c) xs' ∧ W.grownBy w' (Value.slice A xs.length c).ownBlock := by
 rcases Nat.eq_zero_or_pos xs.length with h0 | h0
 ·obtain rfl := List.eq_nil_of_length_eq_zero h0
  refine (show Calls Tryz.prog 121 _ W _ from AnyF.slices_SortFunc_none { Tryz.sortG with } A c (.func (.func 122) #[] #[]) W).mono ?_
  rintro e w' ⟨he, rfl⟩
  exact ⟨he, [], ⟨List.Perm.refl _, List.Pairwise.nil⟩, hS, World.grownBy.refl _ _⟩
 ·obtain ⟨g, cap, e, _⟩ := Kd.R_form hS h0
  rw [e] at hS ⊢
  exact (sortGames_pos W base g cap xs hx h0 hS).mono fun _ _ ⟨h1, xs', h2, h3, h4⟩ => ⟨h1, xs', h2, h3, h4⟩
theorem allGames_fn (t m b : Nat) (ht : t < 2 ^ 62) (hm : m < 62) (W : World) (h1 : W.cell? ⟨b, 0, none⟩ = some (.int .i64 (t : Int))) :
  Calls Tryz.prog 117 #[.int .i64 (m : Int), .pointer (some ⟨b, 0, none⟩)] W fun e w' => e = .returned (.bool (t.testBit m)) ∧ Below W.heap.size W w' := by
 have hh := has_eq t m ht hm
 generalize t.testBit m = q at hh
 have HH := Aside0.mk hh
 clear hh
 go_enter Tryz.func117, Tryz.ntmps117
 go_wp2_with (go_at_call 118; refine (impl_has.calls (t : Int) (m : Int) _ _ HH.out).mono ?_; rintro e w' ⟨rfl, hd⟩; have HD := Aside0.mk hd.below; clear hd)
 go_ret
 exact ⟨rfl, HD.out⟩
set_option maxRecDepth 100000 in
set_option maxHeartbeats 8000000 in
theorem allGames_any (n : Nat) (hn : n ≤ 4) (hn1 : 1 ≤ n) (w : World) :
  Calls Tryz.prog 78 #[.int .i64 (n : Int)] w fun e w' => ∃ v : Value, e = .returned v ∧ (∃ xs', SortedBy cmpLL S28.f1 (rawG n (tabs n)) xs' ∧ Kd.R k28 28 w' w.heap.size (fun _ => True) v xs') ∧ Below w.heap.size w w' := by
 have hu68 := Tryz.underlying68
 have hu28 := Tryz.underlying28
 have h1 := tabs_len n hn
 have h2 := tabs_lt n hn
 have ih := tables_any n hn
 generalize tabs n = l at *
 have ih2 : ∀ w, Calls Tryz.prog 116 #[.int .i64 (n : Int)] w fun e w' => ∃ A1 c1, e = .returned (.slice A1 l.length c1) ∧ Kd.R (Kd.int .i64) 3 w' w.heap.size (fun _ => True) (.slice A1 l.length c1) (tabI l) ∧ Below w.heap.size w w' := fun w => (ih w).mono fun e w' ⟨v, he, hR, hB⟩ => by
  obtain ⟨A1, c1, rfl, _, hC⟩ := Kd.R_reads hR
  have e1 : (tabI l).length = l.length := by simp [tabI]
  rw [e1] at he hR
  exact ⟨A1, c1, he, hR, hB⟩
 have IH := Aside0.mk ih2
 have HL := Aside0.mk h2
 have HLEN := Aside0.mk (fun k => Nat.le_trans (rawG_len n (l.take k)) (Nat.le_trans (List.length_take_le' _ _) h1))
 obtain ⟨N, hNl⟩ : ∃ N, N = l.length := ⟨_, rfl⟩
 rw [← hNl] at IH h1
 have HN := Aside0.mk hNl
 clear ih ih2 h2 hNl
 go_enter Tryz.func78, Tryz.ntmps78
 go_wp2_with (go_at_call 116; refine (IH.out _).mono ?_; rintro e w1 ⟨A1, c1, rfl, hC, hb⟩; have HC := Aside0.mk hC; have HB := Aside0.mk hb; clear hb hC)
 clear IH
 have hpn : 1 ≤ 2 ^ n ∧ 2 ^ n ≤ 16 := by
  have : n = 1 ∨ n = 2 ∨ n = 3 ∨ n = 4 := by omega
  rcases this with h | h | h | h <;> subst h <;> decide
 have HPN := Aside0.mk hpn
 go_loopg [3, 5, 6, 11] N (fun gg v3 _ _ s11 wr => ∃ kk : Nat, kk ≤ N ∧ N - kk ≤ gg ∧ s11 = .int .i64 kk ∧ Aside0 (Below w.heap.size w wr) ∧ Aside0 (Kd.R (Kd.int .i64) 3 wr w.heap.size (fun _ => True) (.slice A1 N c1) (tabI l)) ∧ Aside0 (Kd.R k28 28 wr w.heap.size (fun _ => True) v3 (rawG n (l.take kk))))
 case atStart =>
  refine ⟨0, by omega, by omega, rfl, ⟨Below.trans ((Below.refl _ _).alloc (Nat.le_refl _) _) (HB.out.mono (by simp))⟩, ⟨Kd.R_lower HC.out (by simp)⟩, ⟨?_⟩⟩
  refine ⟨fun _ _ => trivial, [], ⟨rfl, .inr ⟨w.heap.size, 0, #[], rfl, Nat.le_refl _, ?_, Nat.le_refl _, by simp [maxLen], rfl, rfl⟩⟩, Reps.none _ _⟩
  exact (HB.out.block _ (by simp)).trans (heap1_0 _ _)
 case round =>
  obtain ⟨kk, hkk, hg, rfl, BW, HT, HO⟩ := hrel
  by_cases hlt : kk < N
  ·have hltz : (kk : Int) < (N : Int) := by omega
   have h0z : (0 : Int) ≤ (kk : Int) := by omega
   obtain ⟨ad, e, hcell⟩ := Kd.at_int (Kd.R_reads' HT.out).2.2 (kk : Int) h0z (by have := HN.out; simp only [tabI, List.length_map]; omega)
   rw [tabI_get, Int.toNat_natCast] at hcell
   have ht := HL.out (l.getD kk 0) (by have := HN.out; simp [List.getD_eq_getElem?_getD, show kk < l.length by omega])
   have hyes := rawG_yes n l kk (by have := HN.out; omega)
   have hno := rawG_no n l kk (by have := HN.out; omega)
   generalize l.getD kk 0 = t at hcell ht hyes hno
   subst e
   have hlb := bitsB_len n t
   have hvo := fun (W : World) (b : Nat) (h1 : W.cell? ⟨b, 0, none⟩ = some (.int .i64 (t : Int))) => allGames_v n t hn hn1 b W h1 ht (fun m W' hm h2 => allGames_fn t m b (by omega) hm W' h2)
   have hall := fun (A : Option Addr) (c : Nat) (W : World) (h1 : Kd.C Kd.bool W A (bitsB n t).length (bitsB n t)) (h2 : (bitsB n t).length ≤ c) => impl_votes_all.calls (n : Int) A c (bitsB n t) _ W h1 h2 (all_val n hn1 hn _)
   have hgame := fun (A : Option Addr) (c : Nat) (W : World) (h1 : Kd.C Kd.bool W A (bitsB n t).length (bitsB n t)) (h2 : (bitsB n t).length ≤ c) => impl_votes_game.calls (n : Int) A c (bitsB n t) _ _ W h1 h2 (game_val n t hn)
   change isTab n t = true → rawG n (l.take (kk+1)) = rawG n (l.take kk) ++ [⟨(n : Int), leastSets n (bitsB n t)⟩] at hyes
   have hm0 : rdOf false (bitsB n t) 0 = t.testBit 0 := bits_at n t 0 (by have := HPN.out; omega)
   have hmn : rdOf false (bitsB n t) ((2 ^ n - 1 : Nat) : Int) = t.testBit (2 ^ n - 1) := bits_at n t _ (by have := HPN.out; omega)
   have hpn := HPN.out
   have hit : isTab n t = (!(t.testBit 0) && t.testBit (2 ^ n - 1)) := rfl
   generalize leastSets n (bitsB n t) = gs at hgame hyes
   generalize bitsB n t = bl at *
   generalize t.testBit 0 = q0 at *
   generalize t.testBit (2 ^ n - 1) = q1 at *
   rw [← hlb] at hpn hall hmn
   generalize isTab n t = it at *
   obtain ⟨Q, hQ⟩ : ∃ Q, Q = bl.length := ⟨_, rfl⟩
   rw [← hQ] at hvo hall hgame hpn hmn
   obtain ⟨M, hMQ⟩ : ∃ M, M = Q - 1 := ⟨_, rfl⟩
   rw [← hMQ] at hall hmn
   have hM1 : M < Q := by omega
   have hM2 : (M : Int) < (Q : Int) := by omega
   have hM3 : (0 : Int) ≤ (M : Int) := by omega
   have hQ1 : 0 < Q := by omega
   have HVO := Aside0.mk hvo
   have HALL := Aside0.mk hall
   have HGAME := Aside0.mk hgame
   have HY := Aside0.mk hyes
   have HNo := Aside0.mk hno
   have HM := Aside0.mk (And.intro hm0 hmn)
   have HQ := Aside0.mk hQ
   have HIT := Aside0.mk hit
   have HRL := Aside0.mk (HLEN.out kk)
   clear hvo hall hgame hyes hno hlb hm0 hmn hQ hit hMQ
   go_wp2_with (go_at_call 112; refine (HVO.out _ wr.heap.size (by simp)).mono ?_; rintro e w2 ⟨A2, c2, rfl, hC2, hl2, hb⟩; have HC2 := Aside0.mk hC2; have HB2 := Aside0.mk hb; have HL2 := Aside0.mk hl2; clear hb hC2 hl2)
   obtain ⟨ad, e, hc0⟩ := Kd.at_bool HC2.out 0 (by omega) (by omega)
   obtain ⟨ad', e', hc1⟩ := Kd.at_bool HC2.out (M : Int) (by omega) (by omega)
   subst e
   cases e'
   have had : ad.add (0 : Int).toNat = ad := rfl
   rw [HM.out.1, had] at hc0
   clear had
   rw [HM.out.2, Int.toNat_natCast] at hc1
   have hv0 : ∀ o, (w2.alloc o).cell? ad = some (.bool q0) := fun o => (World.cell?_alloc_lt _ _ _ (World.block_lt_of_cell? w2 _ hc0)).trans hc0
   have HCH := Aside0.mk (show Below wr.heap.size wr w2 from Below.trans ((Below.refl _ _).alloc (Nat.le_refl _) _) (HB2.out.mono (by simp)))
   cases q0 with
   | true =>
    go_quiet (fail)
    go_wp2
    go_roundg (N - (kk + 1))
    case measure => omega
    case rel =>
     have e1 := HNo.out (by rw [HIT.out]; rfl)
     refine ⟨kk + 1, by omega, by omega, by go_num, ⟨?_⟩, ⟨?_⟩, ⟨?_⟩⟩
     ·exact Below.trans BW.out ((pw_below_drewN (below_alloc HCH.out _) _).mono BW.out.size)
     ·exact Kd.R_below HT.out (pw_below_drewN (below_alloc HCH.out _) _)
     ·rw [e1]
      exact Kd.R_below HO.out (pw_below_drewN (below_alloc HCH.out _) _)
   | false =>
    go_region_held3 (fun w' => w'.cell? ⟨w2.heap.size, 0, none⟩ = some (.int .i64 (n : Int)) ∧ w'.cell? ⟨w2.heap.size, 1, none⟩ = some (.slice (some ad) Q c2) ∧ w'.cell? ad = some (.bool false) ∧ w'.cell? (ad.add M) = some (.bool q1)) (go_keep)
     (first | (go_at_call 119; refine (HALL.out _ _ _ (Kd.C_below HC2.out (below_drew (below_alloc (Below.refl _ _) _))) HL2.out).mono ?_; rintro e w3 ⟨rfl, hb3⟩; have hbw : Below w2.heap.size w2 w3 := Below.trans (below_drew (below_alloc (Below.refl _ _) _)) (hb3.mono (by simp)); have hk0 : w3.cell? ad = some (.bool false) := (hbw.cell (World.block_lt_of_cell? w2 _ hc0)).trans hc0; have hk1 : w3.cell? (ad.add M) = some (.bool q1) := (hbw.cell (World.block_lt_of_cell? w2 _ hc1)).trans hc1; have hbx : w3.heap[w2.heap.size]? = some (.cells #[.int .i64 (n : Int), .slice (some ad) Q c2] 68 (0, 0)) := blk_below (blk_drewN (heap1_0 _ _) _) hb3; have hx0 : w3.cell? ⟨w2.heap.size, 0, none⟩ = some (.int .i64 (n : Int)) := (blk_cell hbx 0).trans rfl; have hx1 : w3.cell? ⟨w2.heap.size, 1, none⟩ = some (.slice (some ad) Q c2) := (blk_cell hbx 1).trans rfl; have HBW := Aside0.mk hbw; clear hb3 hbw hbx))
    have HC3 := Aside0.mk (Below.trans HCH.out (HBW.out.mono HCH.out.size))
    cases q1 with
    | false =>
     go_wp2
     go_roundg (N - (kk + 1))
     case measure => omega
     case rel =>
      have e1 := HNo.out (by rw [HIT.out]; rfl)
      refine ⟨kk + 1, by omega, by omega, by go_num, ⟨?_⟩, ⟨?_⟩, ⟨?_⟩⟩
      ·exact Below.trans BW.out (HC3.out.mono BW.out.size)
      ·exact Kd.R_below HT.out HC3.out
      ·rw [e1]
       exact Kd.R_below HO.out HC3.out
    | true =>
     go_wp2_with (first | (go_at_call 120; refine (HGAME.out _ _ _ (Kd.C_below HC2.out HBW.out) HL2.out).mono ?_; rintro e w4 ⟨v4, rfl, ho4, hb4⟩; have HO4 := Aside0.mk ho4; have HB4 := Aside0.mk hb4; clear ho4 hb4) | ((with_reducible refine gate_builtin (b := .append) (xs := #[.tmp 31, .tmp 34]) rfl ?_); at_builtin; refine Kd.R_append k28 (w0 := w) w.heap.size rfl (.tmp 31) (.tmp 34) 53 28 (.agg #[.int .i64 0, .slice none 0 0]) 32 rfl Tryz.underlying53 infoG rfl (by decide) (by decide) u3 (rawG n (l.take kk)) ⟨(n : Int), gs⟩ [.int .i64 (n : Int), v4] (fun _ => True) (fun k => w3.heap.size ≤ k ∧ k < w4.heap.size) rfl rfl ?aP ?aQ (fun _ _ => trivial) ?aO ?aB ?aS ?aL ?_; (case aP => exact k28_mkM _ _ _ ⟨(n : Int), gs⟩ (Kd.S_R (Kd.S_mono (Kd.S_lower (Kd.S_bound HO4.out) (Nat.le_trans BW.out.size HC3.out.size)) (fun k hk => ⟨hk.2.1, hk.2.2.1⟩)))); (case aQ => exact fun k hk => ⟨trivial, fun e => by have h1 := Kd.R_lt HO.out k e.symm; have h2 := HC3.out.size; omega⟩); (case aO => exact Kd.R_below HO.out (Below.trans HC3.out (HB4.out.mono HC3.out.size))); (case aB => exact Below.trans (Below.trans BW.out (HC3.out.mono BW.out.size)) (HB4.out.mono (Nat.le_trans BW.out.size HC3.out.size))); (case aS => exact Nat.le_trans (Nat.le_trans BW.out.size HC3.out.size) HB4.out.size); (case aL => have h1 := HRL.out; omega); intro v5 w5 ho5 hb5 hg5 hat5; have HO5 := Aside0.mk ho5; have HB5 := Aside0.mk hb5; have HG5 := Aside0.mk hg5; clear ho5 hb5 hg5 hat5))
     go_roundg (N - (kk + 1))
     case measure => omega
     case rel =>
      have e1 := HY.out (by rw [HIT.out]; rfl)
      refine ⟨kk + 1, by omega, by omega, by go_num, HB5, ⟨?_⟩, ⟨?_⟩⟩
      ·have h4 := Below.trans HC3.out (HB4.out.mono HC3.out.size)
       exact Kd.R_over' (Kd.R_below HT.out h4) (Kd.R_typed (Kd.R_below HO.out h4)) (by decide) HG5.out
      ·rw [e1]
       exact HO5.out
  ·have hltz : ¬ (kk : Int) < (N : Int) := by omega
   have : kk = N := by omega
   subst this
   have ho := HO.out
   rw [HN.out, List.take_length] at ho
   obtain ⟨Av, cv, rfl⟩ := Kd.R_slice ho
   have hs := sortGames_any wr w.heap.size Av cv (rawG n l) (by have := HLEN.out l.length; rw [List.take_length] at this; omega) ho
   have HS := Aside0.mk hs
   have HO' := Aside0.mk ho
   clear hs ho
   go_wp2_with (go_at_call 121; refine HS.out.mono ?_; rintro e w1 ⟨rfl, xs', hx, ho, hg⟩; have HX := Aside0.mk hx; have HO1 := Aside0.mk ho; have HG1 := Aside0.mk hg; clear hx ho hg)
   go_ret
   exact ⟨_, rfl, ⟨xs', HX.out, HO1.out⟩, BW.out.grown HG1.out BW.out.size (Kd.R_base HO'.out)⟩
def allG (n : Nat) : List S28 := (sortC cmpLL ((rawG n (tabs n)).map S28.f1)).map fun ws => ⟨(n : Int), ws⟩
theorem allG_of (n : Nat) (xs : List S28) (h : SortedBy cmpLL S28.f1 (rawG n (tabs n)) xs) : xs = allG n := by
 have h1 := sortC_unique Cmp.LL (h.1.map S28.f1) (List.pairwise_map.2 h.2)
 have h2 : ∀ x ∈ xs, x = ⟨(n : Int), x.f1⟩ := fun x hx => by
  have h3 := h.1.mem_iff.1 hx
  unfold rawG at h3
  obtain ⟨t, _, rfl⟩ := List.mem_map.1 h3
  rfl
 rw [allG, ← h1, List.map_map]
 exact (List.map_congr_left (g := fun x => (⟨(n : Int), x.f1⟩ : S28)) (f := id) h2 ▸ (List.map_id xs).symm)
def impl_allGames.f (a0 : Int) : Option ((List (S28))) := if 1 ≤ a0 ∧ a0 ≤ 4 then some (allG a0.toNat) else none
theorem impl_allGames.calls (a0 : Int) (r : List (S28)) (w : World) (h : impl_allGames.f a0 = some r) :
  Calls Tryz.prog 78 #[.int .i64 a0] w fun e w' => ∃ v0_ : Value, e = .returned (v0_) ∧ Kd.R k28 28 w' w.heap.size (fun _ => True) v0_ r ∧ Below w.heap.size w w' := by
 unfold impl_allGames.f at h
 split at h
 ·rename_i h1
  obtain rfl := Option.some.inj h
  obtain ⟨n, rfl⟩ := Int.eq_ofNat_of_zero_le (show 0 ≤ a0 by omega)
  rw [Int.toNat_natCast]
  refine (allGames_any n (by omega) (by omega) w).mono ?_
  rintro e w' ⟨v, he, ⟨xs, hx, hR⟩, hB⟩
  rw [allG_of n xs hx] at hR
  exact ⟨v, he, hR, hB⟩
 ·cases h
end Go.Proofs.YtnncjnjfdhbddaaGreat.Z
namespace Go.Proofs.YtnncjnjfdhbddaaGreat.Z
open Go.RowKit Go.Proofs.YtnncjnjfdhbddaaGreatW.PrintWords Go.Proofs.YtnncjnjfdhbddaaGreatW.PrintLast Go.Proofs.YtnncjnjfdhbddaaGreatW.PrintMore
attribute [local go_sem] max2_int min2_int max_two min_two max_three min_three max_four min_four
set_option linter.unusedVariables false
set_option linter.unusedSimpArgs false
set_option maxHeartbeats 2000000 in
theorem indexFunc_int (p : Int → Bool) (g : Nat) (cb : Array Value) (A : Option Addr) (c : Nat) (l : List Int) (w : World)
  (eg : ∀ args w, (callFunc g args).run Tryz.prog w = .ok (.enter g args) w)
  (hr : Kd.C (Kd.int .i64) w A l.length l)
  (hp : ∀ W x, x ∈ l → Below w.heap.size w W → Calls Tryz.prog g (#[.int .i64 x] ++ cb) W fun e w' => e = .returned (.bool (p x)) ∧ Below W.heap.size W w') :
  Calls Tryz.prog 145 #[.slice A l.length c, .func (.func g) #[] cb] w fun e w' => e = .returned (.int .i64 (idxI p l)) ∧ Below w.heap.size w w' := by
 have HR := Aside0.mk hr
 have HP := Aside0.mk hp
 have hm := hr.2.1
 clear hr hp
 go_enter Tryz.func145, Tryz.ntmps145
 go_wp2
 go_loopg [5, 8] l.length (fun gg _ s8 wr => ∃ kk : Nat, kk ≤ l.length ∧ l.length - kk ≤ gg ∧ s8 = .int .i64 kk ∧ Aside0 (Below w.heap.size w wr) ∧ Aside0 (∀ j, j < kk → p (l.getD j 0) = false))
 case atStart => exact ⟨0, Nat.zero_le _, by omega, rfl, ⟨Below.refl _ w⟩, ⟨fun j hj => absurd hj (Nat.not_lt_zero _)⟩⟩
 case round =>
  obtain ⟨kk, hkk, hg, rfl, BW, HA⟩ := hrel
  by_cases hlt : kk < l.length
  ·have hltz : (kk : Int) < (l.length : Int) := by omega
   obtain ⟨ad, e, hcell⟩ := Kd.at_int (Kd.C_below HR.out BW.out) (kk : Int) (by omega) hltz
   subst e
   rw [Int.toNat_natCast] at hcell
   have hy0 : rd l (kk : Int) = l.getD kk 0 := by simp [rd]
   have hmem : l.getD kk 0 ∈ l := by simp [List.getD_eq_getElem?_getD, hlt]
   rw [hy0] at hcell
   have hcall := HP.out wr _ hmem BW.out
   clear hy0 hmem HR HP
   generalize hy : l.getD kk 0 = y at hcell hcall
   have B := Aside0.mk hy
   clear hy
   cases hq : p y with
   | true =>
    rw [hq] at hcall
    have Q := Aside0.mk hq
    clear hq
    go_wp2_with (go_at_fn g; refine hcall.mono ?_; rintro e w' ⟨rfl, hb'⟩)
    go_ret
    refine ⟨?_, Below.trans BW.out (hb'.mono BW.out.size)⟩
    rw [idxI_hit p l 0 kk hlt (by rw [B.out]; exact Q.out) HA.out]
    rfl
   | false =>
    rw [hq] at hcall
    have Q := Aside0.mk hq
    clear hq
    go_wp2_with (go_at_fn g; refine hcall.mono ?_; rintro e w' ⟨rfl, hb'⟩)
    go_roundg (l.length - (kk + 1))
    case measure => omega
    case rel =>
     refine ⟨kk + 1, by omega, by omega, by go_num, ⟨Below.trans BW.out (hb'.mono BW.out.size)⟩, ⟨fun j hj => ?_⟩⟩
     by_cases e : j = kk
     ·subst e
      rw [B.out]; exact Q.out
     ·exact HA.out j (by omega)
  ·have hltz : ¬ (kk : Int) < (l.length : Int) := by omega
   have : kk = l.length := by omega
   subst this
   go_wp2
   go_ret
   refine ⟨?_, BW.out⟩
   rw [idxI_miss p l 0 HA.out]
   rfl
set_option maxHeartbeats 2000000 in
theorem containsFunc_int (p : Int → Bool) (g : Nat) (cb : Array Value) (A : Option Addr) (c : Nat) (l : List Int) (w : World)
  (eg : ∀ args w, (callFunc g args).run Tryz.prog w = .ok (.enter g args) w)
  (hr : Kd.C (Kd.int .i64) w A l.length l)
  (hp : ∀ W x, x ∈ l → Below w.heap.size w W → Calls Tryz.prog g (#[.int .i64 x] ++ cb) W fun e w' => e = .returned (.bool (p x)) ∧ Below W.heap.size W w') :
  Calls Tryz.prog 114 #[.slice A l.length c, .func (.func g) #[] cb] w fun e w' => e = .returned (.bool (l.any p)) ∧ Below w.heap.size w w' := by
 rw [← idxI_nonneg]
 have hI := indexFunc_int p g cb A c l w eg hr hp
 generalize idxI p l = i at hI
 go_enter Tryz.func114, Tryz.ntmps114
 go_wp2_with (go_at_call 145; refine hI.mono ?_; rintro e w' ⟨rfl, hb'⟩)
 go_ret
 exact ⟨rfl, hb'⟩
end Go.Proofs.YtnncjnjfdhbddaaGreat.Z
namespace Go.Proofs.YtnncjnjfdhbddaaGreat.Z
open Go.RowKit Go.Proofs.YtnncjnjfdhbddaaGreatW.PrintWords Go.Proofs.YtnncjnjfdhbddaaGreatW.PrintLast Go.Proofs.YtnncjnjfdhbddaaGreatW.PrintMore
attribute [local go_sem] max2_int min2_int max_two min_two max_three min_three max_four min_four
set_option linter.unusedVariables false
set_option linter.unusedSimpArgs false
def impl_maskOf.l0 : Nat → Int → List Int → Int → Int → Option (Int)
 | 0, _, _, _, _ => none
 | k + 1, x3, x6, x7, x8 => if x8 < x7 then (if 0 ≤ x8 then (if x8 < (x6.length : Int) then (if 0 ≤ (rd x6 x8) then (impl_maskOf.l0 k (Go.bits .or .i64 x3 (shl .i64 1 (rd x6 x8))) x6 x7 (wrap64 (x8 + 1))) else (none)) else (none)) else (none)) else (some x3)
def impl_maskOf.f (k : Nat) (l0 : List Int) : Option (Int) := impl_maskOf.l0 k 0 l0 (l0.length : Int) 0
set_option maxHeartbeats 8000000 in
set_option maxRecDepth 100000 in
theorem impl_maskOf.calls (k : Nat) (A0 : Option Addr) (c0 : Nat) (l0 : List Int) (r : Int) (w : World) (hr0 : Kd.C (Kd.int .i64) w A0 l0.length l0) (hc0 : l0.length ≤ c0) (h : impl_maskOf.f k l0 = some r) :
  Calls Tryz.prog 111 #[.slice A0 l0.length c0] w fun e w' => e = .returned (.int .i64 r) ∧ Drawn0 w w' := by
 have HR0 := Aside0.mk hr0
 have HC0 := Aside0.mk hc0
 clear hr0 hc0
 have H : (impl_maskOf.l0 k 0 l0 (l0.length : Int) 0) = some r := h
 clear h
 have H' := Aside0.mk H
 clear H
 go_enter Tryz.func111, Tryz.ntmps111
 go_wp2
 go_loopg [3, 8] k (fun kq v3 v8 w' => ∃ (x3_1 : Int) (x8_1 : Int), v3 = .int .i64 x3_1 ∧ v8 = .int .i64 x8_1 ∧ Aside0 (impl_maskOf.l0 kq x3_1 l0 (l0.length : Int) x8_1 = some r) ∧ Aside0 (kq ≤ k) ∧ Drawn0 w w')
 case atStart => exact ⟨(0), (0), (by first | rfl | (simp; done) | (simp [*]; done)), (by first | rfl | (simp; done) | (simp [*]; done)), H', ⟨Nat.le_refl _⟩, by repeat (first | exact Drawn0.refl _ | apply Drawn0.step)⟩
 case round =>
  clear H'
  try clear c1
  obtain ⟨x3_1, x8_1, rfl, rfl, HA, HK1, ⟨m1, rfl⟩⟩ := hrel
  cases gk with
  | zero => exact absurd HA.out (by simp [impl_maskOf.l0])
  | succ k1 =>
   have H := HA.out
   clear HA
   simp only [impl_maskOf.l0] at H
   by_cases c2 : x8_1 < (l0.length : Int)
   ·rw [if_pos c2] at H
    have c2b0 : decide (x8_1 < (l0.length : Int)) = true := decide_eq_true c2
    clear c2
    by_cases c3 : 0 ≤ x8_1
    ·rw [if_pos c3] at H
     have c3b0 : decide (0 ≤ x8_1) = true := decide_eq_true c3
     clear c3
     by_cases c4 : x8_1 < (l0.length : Int)
     ·rw [if_pos c4] at H
      have c4b0 : decide (x8_1 < (l0.length : Int)) = true := decide_eq_true c4
      clear c4
      by_cases c5 : 0 ≤ (rd l0 x8_1)
      ·rw [if_pos c5] at H
       have c5b0 := eq_true c5
       have c5b1 : decide (0 ≤ (rd l0 x8_1)) = true := decide_eq_true c5
       clear c5
       obtain ⟨ji6, hji6⟩ : ∃ j_ : Int, (shl .i64 1 (rd l0 x8_1)) = j_ := ⟨_, rfl⟩
       replace H : (impl_maskOf.l0 k1 (Go.bits .or .i64 x3_1 (ji6)) l0 (l0.length : Int) (wrap64 (x8_1 + 1))) = some r := by first | (rw [hji6] at H; exact H) | (simp only [hji6] at H ⊢; exact H)
       have hji6_ : (IntKind.i64.wrap (1 * 2 ^ min (rd l0 x8_1).toNat 64)) = ji6 := hji6
       have hji6z : (rd l0 x8_1) ≤ 64 → (IntKind.i64.wrap (1 * 2 ^ (rd l0 x8_1).toNat)) = ji6 := shl_small hji6
       have hji6u : (IntKind.i64.wrap (2 ^ min (rd l0 x8_1).toNat 64)) = ji6 := by have h_ := hji6_; rw [Int.one_mul] at h_; exact h_
       have hji6v : (rd l0 x8_1) ≤ 64 → (IntKind.i64.wrap (2 ^ (rd l0 x8_1).toNat)) = ji6 := fun hle_ => by have h_ := hji6z hle_; rw [Int.one_mul] at h_; exact h_
       have hji6y : (wrap64 (1 * 2 ^ min (rd l0 x8_1).toNat 64)) = ji6 := (i64_w _).symm.trans hji6_
       have hji6x : (rd l0 x8_1) ≤ 64 → (wrap64 (1 * 2 ^ (rd l0 x8_1).toNat)) = ji6 := fun h_ => (i64_w _).symm.trans (hji6z h_)
       have H' := Aside0.mk H
       clear H
       have p567 : 0 ≤ (x8_1 : Int) := of_decide_eq_true (by first | (with_reducible assumption) | assumption)
       have q567 : x8_1 < (l0.length : Int) := of_decide_eq_true (by first | (with_reducible assumption) | assumption)
       obtain ⟨ad567, e567, hx567_0⟩ := Kd.at_int HR0.out x8_1 p567 q567
       cases e567
       replace p567 := eq_true p567
       replace q567 := eq_true q567
       go_wp2
       go_roundg k1
       case measure => have := HK1.out; omega
       case rel => exact ⟨(Go.bits .or .i64 x3_1 (ji6)), (wrap64 (x8_1 + 1)), (by first | rfl | (simp; done) | (simp only [← hji6] <;> (first | rfl | simp)) | (simp [*]; done)), (by first | rfl | (simp; done) | (simp [*]; done)), H', ⟨by have := HK1.out; omega⟩, by repeat (first | exact Drawn0.refl _ | apply Drawn0.step)⟩
      ·rw [if_neg c5] at H
       exact absurd H (by simp)
     ·rw [if_neg c4] at H
      exact absurd H (by simp)
    ·rw [if_neg c3] at H
     exact absurd H (by simp)
   ·rw [if_neg c2] at H
    have c2b0 : decide (x8_1 < (l0.length : Int)) = false := decide_eq_false c2
    clear c2
    obtain rfl := Option.some.inj H
    go_wp2
    go_ret
    exact ⟨by first | rfl | (simp; done) | (simp [*]; done), by repeat (first | exact Drawn0.refl _ | apply Drawn0.step)⟩
end Go.Proofs.YtnncjnjfdhbddaaGreat.Z
namespace Go.Proofs.YtnncjnjfdhbddaaGreat.Z
open Go.RowKit Go.Proofs.YtnncjnjfdhbddaaGreatW.PrintWords Go.Proofs.YtnncjnjfdhbddaaGreatW.PrintLast Go.Proofs.YtnncjnjfdhbddaaGreatW.PrintMore
attribute [local go_sem] max2_int min2_int max_two min_two max_three min_three max_four min_four
set_option linter.unusedVariables false
set_option linter.unusedSimpArgs false
def hasAll (mask m : Nat) : Bool := mask &&& m == m
def VBox (b : Nat) (v : Value) (W : World) : Prop := W.heap[b]? = some (.cells #[v] 36 (0, 0))
def masksI (l : List Nat) : List Int := l.map fun (m : Nat) => (m : Int)
theorem votesBy_fn2 (mask m b : Nat) (hm : mask < 2 ^ 63) (h2 : m < 2 ^ 63) (W : World) (h1 : W.cell? ⟨b, 0, none⟩ = some (.int .i64 (mask : Int))) :
  Calls Tryz.prog 115 #[.int .i64 (m : Int), .pointer (some ⟨b, 0, none⟩)] W fun e w' => e = .returned (.bool (hasAll mask m)) ∧ W = w' := by
 have ha := and_nat mask m hm h2
 have hq : (((mask &&& m : Nat) : Int) == (m : Int)) = hasAll mask m := by
  unfold hasAll
  rw [Bool.eq_iff_iff]
  simp
  exact Int.ofNat_inj
 generalize hasAll mask m = q at hq
 go_enter Tryz.func115, Tryz.ntmps115
 go_wp2
 refine bodyPost_ret (v := .bool q) (by simp [results, Tryz.results115, go_sem]) rfl ?_
 exact ⟨rfl, rfl⟩
set_option maxHeartbeats 1000000 in
theorem votesBy_fn1 (mask b : Nat) (hm : mask < 2 ^ 63) (ms : List Nat) (h2 : ∀ m ∈ ms, m < 2 ^ 63) (A : Option Addr) (c : Nat) (W : World) (h1 : W.cell? ⟨b, 0, none⟩ = some (.slice A (masksI ms).length c)) (hr : Kd.C (Kd.int .i64) W A (masksI ms).length (masksI ms)) :
  Calls Tryz.prog 113 #[.int .i64 (mask : Int), .pointer (some ⟨b, 0, none⟩)] W fun e w' => e = .returned (.bool (ms.any (hasAll mask))) ∧ Below W.heap.size W w' := by
 have eg : ∀ args w, (callFunc 115 args).run Tryz.prog w = .ok (.enter 115 args) w := enters_of Tryz.func115 (by kernel_rfl) rfl
 have hC := fun (W' : World) (hB : Below W.heap.size W W') (h1 : W'.cell? ⟨W.heap.size, 0, none⟩ = some (.int .i64 (mask : Int))) =>
  containsFunc_int (fun x => hasAll mask x.toNat) 115 #[.pointer (some ⟨W.heap.size, 0, none⟩)] A c (masksI ms) W' eg (Kd.C_below hr hB)
   (fun W2 x hx hb => by
    obtain ⟨m, hm', rfl⟩ := List.mem_map.1 hx
    exact (votesBy_fn2 mask m _ hm (h2 m hm') W2 ((hb.cell (World.block_lt_of_cell? W' _ h1)).trans h1)).mono fun _ _ ⟨he, hw⟩ => ⟨by rw [he]; simp, hw ▸ Below.refl _ _⟩)
 have e1 : (masksI ms).any (fun x => hasAll mask x.toNat) = ms.any (hasAll mask) := by
  unfold masksI
  rw [List.any_map]
  rfl
 rw [e1] at hC
 generalize ms.any (hasAll mask) = q at hC
 have HC := Aside0.mk hC
 have hca : ∀ o, (W.alloc o).cell? ⟨b, 0, none⟩ = some (.slice A (masksI ms).length c) := fun o => (World.cell?_alloc_lt _ _ _ (World.block_lt_of_cell? W _ h1)).trans h1
 clear hC hr e1
 go_enter Tryz.func113, Tryz.ntmps113
 go_wp2_with (go_at_call 114; refine (HC.out _ ((Below.refl _ _).alloc (Nat.le_refl _) _) (by simp)).mono ?_; rintro e w' ⟨rfl, hb'⟩)
 go_ret
 exact ⟨rfl, Below.trans ((Below.refl _ _).alloc (Nat.le_refl _) _) (hb'.mono (by simp))⟩
set_option maxRecDepth 100000 in
set_option maxHeartbeats 4000000 in
theorem votesBy_any (n : Nat) (hn : n ≤ 9) (A : Option Addr) (c : Nat) (sets : List (List Int)) (ms : List Nat) (w : World)
  (hr : Kd.C (Kd.slice 3 (Kd.int .i64)) w A sets.length sets) (hl : sets.length ≤ 600) (hml : ms.length = sets.length)
  (hb63 : ∀ m ∈ ms, m < 2 ^ 63)
  (hm : ∀ i, i < sets.length → ∃ k, impl_maskOf.f k (sets.getD i []) = some ((ms.getD i 0 : Nat) : Int)) :
  Calls Tryz.prog 76 #[.int .i64 (n : Int), .slice A sets.length c] w fun e w' => ∃ v : Value, e = .returned (.agg #[.int .i64 (n : Int), v]) ∧ Kd.R Kd.bool 4 w' w.heap.size (fun _ => True) v ((List.range (2 ^ n)).map fun mask => ms.any (hasAll mask)) ∧ Below w.heap.size w w' := by
 have hu68 := Tryz.underlying68
 have HR := Aside0.mk hr
 have HM := Aside0.mk hm
 have HL := Aside0.mk hl
 have H63 := Aside0.mk hb63
 have HML := Aside0.mk hml
 clear hr hm hb63
 go_enter Tryz.func76, Tryz.ntmps76
 go_wp2
 go_loopg [7, 11] sets.length (fun gg _ s11 wr => ∃ kk : Nat, kk ≤ sets.length ∧ sets.length - kk ≤ gg ∧ s11 = .int .i64 kk ∧ ∃ v : Value, Aside0 (Below w.heap.size w wr) ∧ Aside0 (VBox (w.heap.size + 1 + 1) v wr) ∧ Aside0 (Kd.R (Kd.int .i64) 3 wr w.heap.size (fun k => k ≠ w.heap.size ∧ k ≠ w.heap.size + 1 + 1) v (masksI (ms.take kk))) ∧ Aside0 (VRes w.heap.size wr))
 case atStart =>
  refine ⟨0, Nat.zero_le _, by omega, rfl, _, ⟨((Below.refl _ _).alloc (Nat.le_refl _) _ |>.alloc (by simp) _ |>.alloc (by simp; omega) _)⟩, ⟨heap3_2 _ _ _ _⟩, ⟨?_⟩, ⟨heap3_0 _ _ _ _⟩⟩
  refine Kd.R_of_own (xs := []) ⟨rfl, .inr ⟨w.heap.size + 1, 0, #[], rfl, by omega, heap3_1 _ _ _ _, Nat.le_refl _, by simp [maxLen], rfl, rfl⟩⟩ ?_
  intro k hk
  have : w.heap.size + 1 = k := by simpa [Value.ownBlock] using hk
  omega
 case round =>
  obtain ⟨kk, hkk, hg, rfl, v, BW, HV, HO, HZ⟩ := hrel
  by_cases hlt : kk < sets.length
  ·have hltz : (kk : Int) < (sets.length : Int) := by omega
   have h0z : (0 : Int) ≤ (kk : Int) := by omega
   have hc1 : wr.cell? ⟨w.heap.size + 1 + 1, 0, none⟩ = some v := (blk_cell HV.out 0).trans rfl
   have hf1 := blk_frozen HV.out 0
   obtain ⟨ad, A0, c0, e, hcell, hl0, hC0⟩ := at_L1 (Kd.C_below HR.out BW.out) (kk : Int) h0z hltz
   obtain ⟨k0, hk0⟩ := HM.out kk hlt
   have hrd : rd_L1 sets (kk : Int) = sets.getD kk [] := by simp [rd_L1]
   rw [hrd] at hcell hl0 hC0
   rw [Int.toNat_natCast] at hcell
   have hmk : ms.take (kk + 1) = ms.take kk ++ [ms.getD kk 0] := by rw [List.take_succ_eq_append_getElem (by omega)]; simp [List.getD_eq_getElem?_getD, hml, hlt]
   generalize hmm : ms.getD kk 0 = m at hk0 hmk
   have HMK := Aside0.mk hmk
   clear hmk hmm
   generalize hs : sets.getD kk [] = st at hcell hl0 hC0 hk0
   subst e
   have HC0 := Aside0.mk hC0
   have HK0 := Aside0.mk hk0
   have HL0 := Aside0.mk hl0
   clear hs hrd hC0 hk0 hl0
   go_wp2
   have hvb : wr.heap[w.heap.size + 1 + 1]? = some (.cells #[v] 36 (0, 0)) := HV.out
   have HVB := Aside0.mk hvb
   have hne : some (w.heap.size + 1 + 1) ≠ v.ownBlock := Kd.R_away HO.out (fun k hk => hk.2)
   have HNE := Aside0.mk hne
   have hlt2 : w.heap.size + 1 + 1 < wr.heap.size := blk_lt hvb
   have hca : ∀ d o, ((wr.drewN d).alloc o).cell? ⟨w.heap.size + 1 + 1, 0, none⟩ = some v := fun d o => (blk_cell (blk_alloc (blk_drewN hvb d) o) 0).trans rfl
   clear hvb hne
   go_region_law (first | (refine Kd.R_append_step (Kd.int .i64) (w0 := w) w.heap.size (by rfl) (.tmp 15) (.tmp 18) 36 3 (.int .i64 0) 8 rfl Tryz.underlying36 infoI rfl (by decide) (by omega) v (masksI (ms.take kk)) (m : Int) [.int .i64 (m : Int)] (fun k => k ≠ w.heap.size ∧ k ≠ w.heap.size + 1 + 1) (fun _ => False) rfl rfl rfl (fun _ hk => hk.elim) (fun k hk => ?aF) ?aO ?aB ?aS ?aL ?_; (case aF => (have h1 := BW.out.size; have h2 := blk_lt HVB.out; simp at hk; omega)); (case aO => exact (by (with_reducible repeat (first | exact HO.out | apply Kd.R_alloc | apply Kd.R_drewN | apply Kd.R_drew)))); (case aB => exact (by (with_reducible repeat (first | exact BW.out | apply below_alloc | apply pw_below_drewN | apply below_drew)))); (case aS => exact BW.out.size); (case aL => (simp [masksI]; omega)); intro v1 w1 ho hb hg hat; obtain ⟨Ao, co, rfl⟩ := Kd.R_slice ho; have hb1 : w1.heap[w.heap.size + 1 + 1]? = some (.cells #[v] 36 (0, 0)) := blk_grown (by (with_reducible repeat (first | exact HVB.out | refine blk_drewN ?_ _ | refine blk_drew ?_ | refine blk_alloc ?_ _))) hg HNE.out; have hb2 : w1.cell? ⟨w.heap.size + 1 + 1, 0, none⟩ = some v := (blk_cell hb1 0).trans rfl; have hb3 := blk_frozen hb1 0; have HO1 := Aside0.mk ho; have HB1 := Aside0.mk hb; have HG1 := Aside0.mk hg; have HV1 := Aside0.mk hb1; clear ho hb hg hat hb1) | (go_simp; go_at_call 111; refine (impl_maskOf.calls _ _ _ st _ _ (by (with_reducible repeat (first | exact HC0.out | apply Kd.C_alloc | apply Kd.C_drewN | apply Kd.C_drew))) HL0.out HK0.out).mono ?_; rintro e w' ⟨rfl, ⟨nd, rfl⟩⟩))
   all_goals
    go_wp2
    go_roundg (sets.length - (kk + 1))
    case measure => omega
    case rel =>
     have e1 : masksI (ms.take kk) ++ [(m : Int)] = masksI (ms.take (kk + 1)) := by rw [HMK.out]; simp [masksI]
     have e2 : (masksI (ms.take kk)).length + 1 = (masksI (ms.take kk) ++ [(m : Int)]).length := by simp
     rw [e2]
     have hlt1 : w.heap.size < wr.heap.size := by omega
     refine ⟨kk + 1, by omega, by omega, by go_num, _, ⟨HB1.out.setCell (by simp; omega) _⟩, ⟨blk_set HV1.out 0 _⟩, ⟨?_⟩, ⟨?_⟩⟩
     ·rw [← e1]
      exact Kd.R_far (p := ⟨w.heap.size + 1 + 1, 0, none⟩) HO1.out (fun k hk => hk.2) _
     ·exact blk_far (blk_grown (blk_drewN HZ.out _) HG1.out (Kd.R_away HO.out (fun k hk => hk.1))) (by simp; omega) _
  ·have hltz : ¬ (kk : Int) < (sets.length : Int) := by omega
   have : kk = sets.length := by omega
   subst this
   have eg : ∀ args w, (callFunc 113 args).run Tryz.prog w = .ok (.enter 113 args) w := enters_of Tryz.func113 (by kernel_rfl) rfl
   have etk : ms.take sets.length = ms := List.take_of_length_le (by omega)
   obtain ⟨Av, cv, ev, hlv, hCv⟩ := Kd.R_reads HO.out
   rw [etk] at ev hlv hCv
   have hcv : wr.cell? ⟨w.heap.size + 1 + 1, 0, none⟩ = some (.slice Av (masksI ms).length cv) := (blk_cell HV.out 0).trans (by rw [ev]; rfl)
   have hvo := votesOf_any n hn (fun mask => ms.any (hasAll mask)) 113 #[.pointer (some ⟨w.heap.size + 1 + 1, 0, none⟩)] wr eg
    (fun W m hm hb => votesBy_fn1 m _ (Nat.lt_of_lt_of_le hm (Nat.le_trans (pow_le9 hn) (by decide))) ms H63.out Av cv W ((hb.cell (World.block_lt_of_cell? wr _ hcv)).trans hcv) (Kd.C_below hCv hb))
   have HVO := Aside0.mk hvo
   have hz : wr.heap[w.heap.size]? = some (.cells #[.int .i64 0, .slice none 0 0] 68 (0, 0)) := HZ.out
   have HZ' := Aside0.mk hz
   clear hvo hcv hCv hlv ev etk eg hz
   go_wp2_with (go_at_call 112; refine HVO.out.mono ?_; rintro e w1 ⟨v1, rfl, hR1, hb1⟩; obtain ⟨A1, c1, rfl⟩ := Kd.R_slice hR1; have hz1 := blk_below HZ'.out hb1; have hz2 : w1.cell? ⟨w.heap.size, 0, none⟩ = some (.int .i64 0) := (blk_cell hz1 0).trans rfl; have hz3 : w1.cell? ⟨w.heap.size, 1, none⟩ = some (.slice none 0 0) := (blk_cell hz1 1).trans rfl; have hf2 := blk_frozen hz1 0; have hf3 := blk_frozen hz1 1; have HR1 := Aside0.mk hR1; have HB1 := Aside0.mk hb1; have HZ1 := Aside0.mk hz1; clear hR1 hb1 hz1)
   refine bodyPost_ret (results_cell_row rfl _ _ w.heap.size 68 #[.int .i64 (n : Int), .slice A1 _ c1] (0, 0) _ rfl (blk_set (blk_set HZ1.out 0 _) 1 _) Tryz.underlying68 rfl (by kernel_rfl)) rfl ?_
   have hlt0 : w.heap.size < wr.heap.size := blk_lt HZ'.out
   refine ⟨_, by simp, Kd.R_lower (Kd.R_far (p := ⟨w.heap.size, 1, none⟩) (Kd.R_far (p := ⟨w.heap.size, 0, none⟩) (Kd.R_newB HR1.out HZ'.out) (fun k hk => hk.2) _) (fun k hk => hk.2) _ |> fun h => Kd.R_mono h (fun _ _ => trivial)) (Nat.le_of_lt hlt0), ?_⟩
   exact ((Below.trans BW.out (HB1.out.mono BW.out.size)).setCell (Nat.le_refl _) _).setCell (Nat.le_refl _) _
end Go.Proofs.YtnncjnjfdhbddaaGreat.Z
namespace Go.Proofs.YtnncjnjfdhbddaaGreat.Z
open Go.RowKit Go.Proofs.YtnncjnjfdhbddaaGreatW.PrintWords Go.Proofs.YtnncjnjfdhbddaaGreatW.PrintLast Go.Proofs.YtnncjnjfdhbddaaGreatW.PrintMore
attribute [local go_sem] max2_int min2_int max_two min_two max_three min_three max_four min_four
set_option linter.unusedVariables false
set_option linter.unusedSimpArgs false
def maskN (s : List Int) : Nat := s.foldl (fun m x => m ||| 2 ^ x.toNat) 0
def inSmall (s : List Int) : Bool := s.all (fun x => decide (0 ≤ x ∧ x < 9))
theorem or_lt512 (a b : Nat) (ha : a < 512) (hb : b < 512) : a ||| b < 512 := Nat.or_lt_two_pow (n := 9) ha hb
theorem pow_lt512 {x : Int} (h : 0 ≤ x ∧ x < 9) : 2 ^ x.toNat < 512 := by
 have : 2 ^ x.toNat ≤ 2 ^ 8 := Nat.pow_le_pow_right (by decide) (by omega)
 omega
theorem maskFold_lt : ∀ (s : List Int) (m : Nat), inSmall s = true → m < 512 → s.foldl (fun m x => m ||| 2 ^ x.toNat) m < 512
 | [], m, _, hm => hm
 | x :: s, m, h, hm => by
  simp only [inSmall, List.all_cons, Bool.and_eq_true, decide_eq_true_eq] at h
  exact maskFold_lt s _ h.2 (or_lt512 _ _ hm (pow_lt512 h.1))
theorem maskN_lt (s : List Int) (h : inSmall s = true) : maskN s < 512 := maskFold_lt s 0 h (by decide)
theorem maskOf_l0 (s : List Int) (hs : s.length ≤ 9223372036854775807) (h : inSmall s = true) : ∀ (d k i m : Nat), s.length - i = d → i ≤ s.length → d < k → m < 512 →
  impl_maskOf.l0 k (m : Int) s (s.length : Int) (i : Int) = some (((s.drop i).foldl (fun m x => m ||| 2 ^ x.toNat) m : Nat) : Int) := by
 intro d
 induction d with
 | zero =>
  intro k i m hd hi hk hm
  obtain ⟨k, rfl⟩ : ∃ m, k = m + 1 := ⟨k - 1, by omega⟩
  simp only [impl_maskOf.l0]
  rw [if_neg (by omega), List.drop_of_length_le (by omega)]
  rfl
 | succ d ih =>
  intro k i m hd hi hk hm
  obtain ⟨k, rfl⟩ : ∃ m, k = m + 1 := ⟨k - 1, by omega⟩
  have hlt : i < s.length := by omega
  have hx : 0 ≤ s[i] ∧ s[i] < 9 := by
   have := List.all_eq_true.1 h s[i] (List.getElem_mem hlt)
   simpa using this
  have e1 : rd s (i : Int) = s[i] := by simp [rd, hlt]
  simp only [impl_maskOf.l0]
  rw [if_pos (by omega), if_pos (by omega), if_pos (by omega), e1, if_pos hx.1, List.drop_eq_getElem_cons hlt]
  have e2 : shl .i64 1 s[i] = ((2 ^ s[i].toNat : Nat) : Int) := by
   have := shl_nat (n := s[i].toNat) (by omega)
   rwa [Int.toNat_of_nonneg hx.1] at this
  have hp := pow_lt512 hx
  rw [e2, or_nat m _ (by omega) (by omega), show wrap64 ((i : Int) + 1) = ((i + 1 : Nat) : Int) by unfold wrap64; omega]
  exact ih k (i + 1) _ (by omega) (by omega) (by omega) (or_lt512 _ _ hm hp)
theorem maskOf_f (s : List Int) (hs : s.length ≤ 9223372036854775807) (h : inSmall s = true) : impl_maskOf.f (s.length + 1) s = some ((maskN s : Nat) : Int) :=
 maskOf_l0 s hs h s.length (s.length + 1) 0 0 (by omega) (by omega) (by omega) (by decide)
def tableOf (n : Nat) (sets : List (List Int)) : List Bool := (List.range (2 ^ n)).map fun m => (sets.map maskN).any (hasAll m)
def byOk (a0 : Int) (l1 : List (List Int)) : Bool := decide (0 ≤ a0 ∧ a0 ≤ 9 ∧ l1.length ≤ 600) && l1.all inSmall
def impl_votesBy.f (a0 : Int) (l1 : List (List Int)) : Option (Int × List Bool) := if byOk a0 l1 = true then some (a0, tableOf a0.toNat l1) else none
theorem impl_votesBy.calls (a0 : Int) (A1 : Option Addr) (c1 : Nat) (l1 : List (List Int)) (r1 : Int) (r2 : List Bool) (w : World) (hr1 : Kd.C (Kd.slice 3 (Kd.int .i64)) w A1 l1.length l1) (hc1 : l1.length ≤ c1) (h : impl_votesBy.f a0 l1 = some (r1, r2)) :
  Calls Tryz.prog 76 #[.int .i64 a0, .slice A1 l1.length c1] w fun e w' => ∃ v1_ : Value, e = .returned (.agg #[.int .i64 r1, v1_]) ∧ Kd.R Kd.bool 4 w' w.heap.size (fun _ => True) v1_ r2 ∧ Below w.heap.size w w' := by
 unfold impl_votesBy.f byOk at h
 split at h
 ·rename_i h1
  simp only [Bool.and_eq_true, decide_eq_true_eq] at h1
  obtain ⟨⟨h2, h3, h4⟩, h5⟩ := h1
  simp only [Option.some.injEq, Prod.mk.injEq] at h
  obtain ⟨rfl, rfl⟩ := h
  obtain ⟨n, rfl⟩ := Int.eq_ofNat_of_zero_le h2
  rw [Int.toNat_natCast]
  refine votesBy_any n (by omega) A1 c1 l1 (l1.map maskN) w hr1 h4 (by simp) ?_ ?_
  ·intro m hm
   obtain ⟨s, hs, rfl⟩ := List.mem_map.1 hm
   have := maskN_lt s (List.all_eq_true.1 h5 s hs)
   omega
  ·intro i hi
   have hmem : l1.getD i [] ∈ l1 := by simp [List.getD_eq_getElem?_getD, hi]
   obtain ⟨ad, A0, c0, _, _, _, hC0⟩ := at_L1 hr1 (i : Int) (by omega) (by omega)
   rw [show rd_L1 l1 (i : Int) = l1.getD i [] by simp [rd_L1]] at hC0
   refine ⟨_, (maskOf_f _ hC0.2.1 (List.all_eq_true.1 h5 _ hmem)).trans ?_⟩
   simp [List.getD_eq_getElem?_getD, hi]
 ·cases h
end Go.Proofs.YtnncjnjfdhbddaaGreat.Z
namespace Go.Proofs.YtnncjnjfdhbddaaGreat.Z
open Go.RowKit Go.Proofs.YtnncjnjfdhbddaaGreatW.PrintWords Go.Proofs.YtnncjnjfdhbddaaGreatW.PrintLast Go.Proofs.YtnncjnjfdhbddaaGreatW.PrintMore
attribute [local go_sem] max2_int min2_int max_two min_two max_three min_three max_four min_four
set_option linter.unusedVariables false
set_option linter.unusedSimpArgs false
def impl_Game_votes.f (a0_0 : Int) (l0_1 : List (List Int)) : Option (Int × List Bool) := (impl_votesBy.f a0_0 l0_1).bind fun bt147 => (some (bt147.1, bt147.2))
set_option maxHeartbeats 8000000 in
set_option maxRecDepth 100000 in
theorem impl_Game_votes.calls (a0_0 : Int) (A0_1 : Option Addr) (c0_1 : Nat) (l0_1 : List (List Int)) (r1 : Int) (r2 : List Bool) (w : World) (hr0_1 : Kd.C (Kd.slice 3 (Kd.int .i64)) w A0_1 l0_1.length l0_1) (hc0_1 : l0_1.length ≤ c0_1) (h : impl_Game_votes.f a0_0 l0_1 = some (r1, r2)) :
  Calls Tryz.prog 48 #[.agg #[.int .i64 a0_0, .slice A0_1 l0_1.length c0_1]] w fun e w' => ∃ v1_ : Value, e = .returned (.agg #[.int .i64 r1, v1_]) ∧ Kd.R Kd.bool 4 w' w.heap.size (fun _ => True) v1_ r2 ∧ Below w.heap.size w w' := by
 have hu28 := Tryz.underlying28
 have hu68 := Tryz.underlying68
 have HR0_1 := Aside0.mk hr0_1
 have HC0_1 := Aside0.mk hc0_1
 clear hr0_1 hc0_1
 have HB := Aside0.mk (Below.refl w.heap.size w)
 have H : ((impl_votesBy.f a0_0 l0_1).bind fun bt147 => (some (bt147.1, bt147.2))) = some (r1, r2) := h
 clear h
 replace H := Option.bind_eq_some_iff.mp H
 obtain ⟨⟨t147, t148⟩, A20, H⟩ := H
 replace H : (some (t147, t148)) = some (r1, r2) := H
 have A2 := Aside0.mk A20
 clear A20
 simp only [Option.some.injEq, Prod.mk.injEq] at H
 obtain ⟨rfl, rfl⟩ := H
 go_enter Tryz.func48, Tryz.ntmps48
 go_wp2_with (first | ((with_reducible refine gate_dst (N := 1) rfl ?_); refine box_event ?hg (N := 1) ?hd (cs := #[.int .i64 a0_0, .slice A0_1 l0_1.length c0_1]) (t := 28) ?hr ?_; (case hd => rfl); (case hg => rfl); (case hr => first | (go_simp; done) | (go_simp; rfl)); intro gb145 hg w3 hbox hb; have n0_ := Aside0.mk (below_step (by repeat (first | (with_reducible first | exact HB.out | apply below_alloc | apply pw_below_drewN | apply below_drew1) | exact HB.out)) hb); have n1_ := Aside0.mk (hbox); have n2_ := Aside0.mk ((by rw [hg]; exact (below_size (by repeat (first | (with_reducible first | exact HB.out | apply below_alloc | apply pw_below_drewN | apply below_drew1) | exact HB.out))) : w.heap.size ≤ gb145)); have n3_ := Aside0.mk ((by rw [hg]; exact (below_size (by repeat (first | (with_reducible first | exact HB.out | apply below_alloc | apply pw_below_drewN | apply below_drew1) | exact HB.out))) : w.heap.size ≤ gb145)); clear HB; have HB := n0_; have BK145 := n1_; have GW145 := n2_; have GE145 := n3_; clear n0_ n1_ n2_ n3_; clear hb hbox hg) | ((with_reducible refine gate_dst (N := 2) rfl ?_); refine box_event ?hg (N := 2) ?hd (cs := #[.int .i64 0, .slice none 0 0]) (t := 68) ?hr ?_; (case hd => rfl); (case hg => rfl); (case hr => first | (go_simp; done) | (go_simp; rfl)); intro gb146 hg w4 hbox hb; have n0_ := Aside0.mk (blk_below (g := gb145) (o := .cells #[.int .i64 a0_0, .slice A0_1 l0_1.length c0_1] 28 (0, 0)) (by (with_reducible repeat (first | refine blk_drewN ?_ _ | refine blk_drew ?_ | refine blk_alloc ?_ _)); exact BK145.out) hb); have n1_ := Aside0.mk (below_step (by repeat (first | (with_reducible first | exact HB.out | apply below_alloc | apply pw_below_drewN | apply below_drew1 | refine below_set ?_ GE145.out) | exact HB.out)) hb); have n2_ := Aside0.mk (hbox); have n3_ := Aside0.mk ((by rw [hg]; exact (below_size (by repeat (first | (with_reducible first | exact HB.out | apply below_alloc | apply pw_below_drewN | apply below_drew1 | refine below_set ?_ GE145.out) | exact HB.out))) : w.heap.size ≤ gb146)); have n4_ := Aside0.mk ((by rw [hg]; exact (below_size (by repeat (first | (with_reducible first | exact HB.out | apply below_alloc | apply pw_below_drewN | apply below_drew1 | refine below_set ?_ GE145.out) | exact HB.out))) : w.heap.size ≤ gb146)); have n5_ := Aside0.mk ((by rw [hg]; exact Nat.ne_of_lt (blk_lt (g := gb145) (o := .cells #[.int .i64 a0_0, .slice A0_1 l0_1.length c0_1] 28 (0, 0)) (by (with_reducible repeat (first | refine blk_drewN ?_ _ | refine blk_drew ?_ | refine blk_alloc ?_ _)); exact BK145.out)) : gb145 ≠ gb146)); have n6_ := Aside0.mk ((by rw [hg]; exact Nat.ne_of_gt (blk_lt (g := gb145) (o := .cells #[.int .i64 a0_0, .slice A0_1 l0_1.length c0_1] 28 (0, 0)) (by (with_reducible repeat (first | refine blk_drewN ?_ _ | refine blk_drew ?_ | refine blk_alloc ?_ _)); exact BK145.out)) : gb146 ≠ gb145)); clear BK145; clear HB; have BK145 := n0_; have HB := n1_; have BK146 := n2_; have GW146 := n3_; have GE146 := n4_; have NB145_146 := n5_; have NB146_145 := n6_; clear n0_ n1_ n2_ n3_ n4_ n5_ n6_; clear hb hbox hg; have hnb5 := NB145_146.out; have hnc5 := NB146_145.out; have hcz6_0 : w4.cell? ⟨gb145, 0, none⟩ = some (.int .i64 a0_0) := (blk_cell BK145.out 0).trans rfl; have hcz6_1 : w4.cell? ⟨gb145, 1, none⟩ = some (.slice A0_1 l0_1.length c0_1) := (blk_cell BK145.out 1).trans rfl; have hfz6_0 := blk_frozen BK145.out 0; have hfz6_1 := blk_frozen BK145.out 1) | ((with_reducible refine gate_callee (f := 76) rfl ?_); refine goesL_ (some 7) rfl rfl Tryz.func76 (by kernel_rfl) rfl #[.int .i64 a0_0, .slice A0_1 l0_1.length c0_1] rfl (by (try simp only [List.map_toArray, List.map_cons, List.map_nil]); first | done | rfl | (simp only [List.length_drop, List.length_take]; rfl)) ?_; (with_reducible refine (impl_votesBy.calls a0_0 _ _ l0_1 t147 t148 _ ?side1 ?side2 A2.out).mono ?_); (case side1 => repeat (first | exact (Kd.C_below HR0_1.out HB.out) | (with_reducible refine Kd.C_alloc ?_ _) | (with_reducible refine Kd.C_drewN ?_ _) | (with_reducible refine Kd.C_drew ?_))); (case side2 => exact HC0_1.out); rintro e w7 ⟨v149, rfl, ho0, hb⟩; refine ⟨_, rfl, ?_⟩; have n0_ := Aside0.mk (Kd.R_lower ho0 (below_size (by repeat (first | (with_reducible first | exact HB.out | apply below_alloc | apply pw_below_drewN | apply below_drew1 | refine below_set ?_ GE145.out | refine below_set ?_ GE146.out) | exact HB.out)))); have n1_ := Aside0.mk (blk_below (g := gb145) (o := .cells #[.int .i64 a0_0, .slice A0_1 l0_1.length c0_1] 28 (0, 0)) (by (with_reducible repeat (first | refine blk_drewN ?_ _ | refine blk_drew ?_ | refine blk_alloc ?_ _)); exact BK145.out) hb); have n2_ := Aside0.mk (blk_below (g := gb146) (o := .cells #[.int .i64 0, .slice none 0 0] 68 (0, 0)) (by (with_reducible repeat (first | refine blk_drewN ?_ _ | refine blk_drew ?_ | refine blk_alloc ?_ _)); exact BK146.out) hb); have n3_ := Aside0.mk (below_step (by repeat (first | (with_reducible first | exact HB.out | apply below_alloc | apply pw_below_drewN | apply below_drew1 | refine below_set ?_ GE145.out | refine below_set ?_ GE146.out) | exact HB.out)) hb); clear BK145; clear BK146; clear HB; have HO150 := n0_; have BK145 := n1_; have BK146 := n2_; have HB := n3_; clear n0_ n1_ n2_ n3_; (try clear hb); (try clear hb2); (try clear hk); (try clear hi); (try clear ho0); have hcz8_0 : w7.cell? ⟨gb146, 0, none⟩ = some (.int .i64 0) := (blk_cell BK146.out 0).trans rfl; have hcz8_1 : w7.cell? ⟨gb146, 1, none⟩ = some (.slice none 0 0) := (blk_cell BK146.out 1).trans rfl; have hfz8_0 := blk_frozen BK146.out 0; have hfz8_1 := blk_frozen BK146.out 1; obtain ⟨Ao9, co9, eo9⟩ := Kd.R_slice HO150.out; subst eo9))
 refine bodyPost_ret (results_cell_row rfl _ _ gb146 68 #[.int .i64 t147, .slice Ao9 t148.length co9] (0, 0) _ rfl (by (with_reducible repeat (first | refine blk_drewN ?_ _ | refine blk_drew ?_ | refine blk_alloc ?_ _)); refine blk_put (cs := #[.int .i64 t147, .slice none 0 0]) ?_ 1 _ rfl; (with_reducible repeat (first | refine blk_drewN ?_ _ | refine blk_drew ?_ | refine blk_alloc ?_ _)); refine blk_put (cs := #[.int .i64 0, .slice none 0 0]) ?_ 0 _ rfl; (with_reducible repeat (first | refine blk_drewN ?_ _ | refine blk_drew ?_ | refine blk_alloc ?_ _)); exact BK146.out) Tryz.underlying68 rfl (by kernel_rfl)) rfl ?_
 exact ⟨_, by first | rfl | (simp [errW_none, errW_some] <;> rfl) | (simp [*, errW_none, errW_some] <;> rfl), by (with_reducible repeat (first | apply Kd.R_alloc | apply Kd.R_drewN | apply Kd.R_drew)); exact Kd.R_mono (Kd.R_far (p := ⟨gb146, 1, none⟩) (Kd.R_far (p := ⟨gb146, 0, none⟩) (Kd.R_types HO150.out BK146.out (by decide)) (fun _ hk => hk.2) (.int .i64 t147)) (fun _ hk => hk.2) (.slice Ao9 t148.length co9)) (fun _ hk => trivial), by repeat (first | (with_reducible first | exact HB.out | apply below_alloc | apply pw_below_drewN | apply below_drew1 | refine below_set ?_ GE145.out | refine below_set ?_ GE146.out) | exact HB.out)⟩
end Go.Proofs.YtnncjnjfdhbddaaGreat.Z
namespace Go.Proofs.YtnncjnjfdhbddaaGreat.Z
open Go.RowKit Go.Proofs.YtnncjnjfdhbddaaGreatW.PrintWords Go.Proofs.YtnncjnjfdhbddaaGreatW.PrintLast Go.Proofs.YtnncjnjfdhbddaaGreatW.PrintMore
attribute [local go_sem] max2_int min2_int max_two min_two max_three min_three max_four min_four
set_option linter.unusedVariables false
set_option linter.unusedSimpArgs false
def toldV (n : Nat) (wins : List Bool) (c : S86) : S86 :=
 if c.f0 = 0 then ⟨0, c.f1, oneB (wins.getD c.f1.toNat false)⟩
 else if c.f0 = 1 then ⟨1, ((countW wins : Nat) : Int), 0⟩
 else if c.f0 = 2 then ⟨2, c.f1, oneB (!(wins.getD (2 ^ n - 1 - 2 ^ c.f1.toNat) false))⟩
 else if c.f0 = 3 then ⟨3, c.f1, (swingsL n wins).getD c.f1.toNat 0⟩
 else if c.f0 = 4 then ⟨4, oneB (properB n wins), 0⟩
 else ⟨5, oneB (strongB n wins), 0⟩
theorem inI_of {x lo hi : Int} (h : inI x lo hi = true) : lo ≤ x ∧ x ≤ hi := of_decide_eq_true h
set_option maxHeartbeats 1000000 in
theorem told_any (n : Nat) (hn : n ≤ 4) (wins : List Bool) (hw : wins.length = 2 ^ n) (x : S86) (hx : clueB (n : Int) x = true) (A : Option Addr) (c : Nat) (w : World) (hr : Kd.C Kd.bool w A wins.length wins) (hc : wins.length ≤ c) :
  Calls Tryz.prog 90 #[.agg #[.int .i64 (n : Int), .slice A wins.length c], .int .i64 x.f0, .int .i64 x.f1] w fun e w' => e = .returned (.agg #[.int .i64 (toldV n wins x).f0, .int .i64 (toldV n wins x).f1, .int .i64 (toldV n wins x).f2]) ∧ Below w.heap.size w w' := by
 have h16 : 2 ^ n ≤ 16 := Nat.le_trans (Nat.pow_le_pow_right (by decide) hn) (by decide)
 obtain ⟨k, a, b⟩ := x
 unfold clueB at hx
 unfold toldV
 simp only at hx ⊢
 by_cases h0 : k = 0
 ·subst h0
  simp only [if_true, Bool.and_eq_true] at hx ⊢
  have h1 := inI_of hx.1
  obtain ⟨a, rfl⟩ := Int.eq_ofNat_of_zero_le h1.1
  rw [Int.toNat_natCast]
  exact told_0 (n : Int) A c wins a (by have := h1.2; rw [Int.toNat_natCast] at this; rw [hw]; have e : ((2 : Int) ^ n) = ((2 ^ n : Nat) : Int) := (by simp); omega) w hr hc
 by_cases h1 : k = 1
 ·subst h1
  simp only [show ¬ (1 : Int) = 0 by decide, if_true, if_false] at hx ⊢
  exact told_1 (n : Int) A c wins.length a _ w (fun W hb => impl_votes_countWins.calls _ (n : Int) A c wins _ W (Kd.C_below hr hb) hc (countWins_f (n : Int) wins (by omega)))
 by_cases h2 : k = 2
 ·subst h2
  simp only [show ¬ (2 : Int) = 0 by decide, show ¬ (2 : Int) = 1 by decide, if_true, if_false, Bool.and_eq_true] at hx ⊢
  have h1 := inI_of hx.1
  obtain ⟨a, rfl⟩ := Int.eq_ofNat_of_zero_le h1.1
  rw [Int.toNat_natCast]
  have ha : a < n := by omega
  have hp : 2 ^ a < 2 ^ n := Nat.pow_lt_pow_right (by decide) ha
  exact told_2 n A c wins a (2 ^ n - 1 - 2 ^ a) ((2 ^ n - 1 : Nat) : Int) ((2 ^ a : Nat) : Int) (by rw [hw]; exact Nat.lt_of_le_of_lt (Nat.sub_le _ _) (by have := Nat.two_pow_pos n; omega)) w hr (by omega) (wrap_pow (by omega) rfl) (anti_f n hn _ hp) (fun W hb => impl_votes_all.calls (n : Int) A c wins _ W (Kd.C_below hr hb) hc (all_f n hn wins))
 by_cases h3 : k = 3
 ·subst h3
  simp only [show ¬ (3 : Int) = 0 by decide, show ¬ (3 : Int) = 1 by decide, show ¬ (3 : Int) = 2 by decide, if_true, if_false, Bool.and_eq_true] at hx ⊢
  have h1 := inI_of hx.1
  obtain ⟨a, rfl⟩ := Int.eq_ofNat_of_zero_le h1.1
  rw [Int.toNat_natCast]
  obtain ⟨f, hf⟩ := swings_f n hn wins hw
  exact told_3 (n : Int) A c wins.length a (swingsL n wins) (by simp [swingsL]; omega) w (fun W hb => impl_votes_swings.calls f (n : Int) A c wins _ W (Kd.C_below hr hb) hc hf)
 by_cases h4 : k = 4
 ·subst h4
  simp only [show ¬ (4 : Int) = 0 by decide, show ¬ (4 : Int) = 1 by decide, show ¬ (4 : Int) = 2 by decide, show ¬ (4 : Int) = 3 by decide, if_true, if_false] at hx ⊢
  exact told_4 (n : Int) A c wins.length a _ w (fun W hb => impl_votes_isProper.calls _ (n : Int) A c wins _ W (Kd.C_below hr hb) hc (proper_f n hn wins hw))
 by_cases h5 : k = 5
 ·subst h5
  simp only [show ¬ (5 : Int) = 0 by decide, show ¬ (5 : Int) = 1 by decide, show ¬ (5 : Int) = 2 by decide, show ¬ (5 : Int) = 3 by decide, show ¬ (5 : Int) = 4 by decide, if_true, if_false] at hx ⊢
  exact told_5 (n : Int) A c wins.length a _ w (fun W hb => impl_votes_isStrong.calls _ (n : Int) A c wins _ W (Kd.C_below hr hb) hc (strong_f n hn wins hw))
 simp [h0, h1, h2, h3, h4, h5] at hx
end Go.Proofs.YtnncjnjfdhbddaaGreat.Z
namespace Go.Proofs.YtnncjnjfdhbddaaGreat.Z
open Go.RowKit Go.Proofs.YtnncjnjfdhbddaaGreatW.PrintWords Go.Proofs.YtnncjnjfdhbddaaGreatW.PrintLast Go.Proofs.YtnncjnjfdhbddaaGreatW.PrintMore
attribute [local go_sem] max2_int min2_int max_two min_two max_three min_three max_four min_four
set_option linter.unusedVariables false
set_option linter.unusedSimpArgs false
def neC (x y : S86) : Bool := !(x.f0 == y.f0) || (!(x.f1 == y.f1) || !(x.f2 == y.f2))
theorem eqA86 (d : Nat) (w : World) (x0 y0 x1 y1 x2 y2 : Int) : (Op.equalIn (d + 2) 86 (.agg #[.int .i64 x0, .int .i64 x1, .int .i64 x2]) (.agg #[.int .i64 y0, .int .i64 y1, .int .i64 y2])).run Tryz.prog w = .ok (x0 == y0 && (x1 == y1 && (x2 == y2))) w := by
 refine eqA_of Tryz.underlying86 (by kernel_rfl) ?_
 refine eqf_cons (by rfl) (by go_simp; rfl) (by go_simp; rfl) (by go_simp) ?_
 refine eqf_cons (by rfl) (by go_simp; rfl) (by go_simp; rfl) (by go_simp) ?_
 exact eqf_last (by rfl) (by go_simp; rfl) (by go_simp; rfl) (by go_simp)
attribute [local go_sem high] eqA86
set_option maxRecDepth 100000 in
set_option maxHeartbeats 4000000 in
theorem solutions_fn11 (n : Nat) (hn : n ≤ 4) (wins : List Bool) (hw : wins.length = 2 ^ n) (x : S86) (hx : clueB (n : Int) x = true) (A : Option Addr) (c b : Nat) (W : World) (hr : Kd.C Kd.bool W A wins.length wins) (hc : wins.length ≤ c)
  (hb : W.heap[b]? = some (.cells #[.int .i64 (n : Int), .slice A wins.length c] 68 (0, 0))) :
  Calls Tryz.prog 89 #[.agg #[.int .i64 x.f0, .int .i64 x.f1, .int .i64 x.f2], .pointer (some ⟨b, 0, none⟩)] W fun e w' => e = .returned (.bool (neC (toldV n wins x) x)) ∧ Below W.heap.size W w' := by
 have hu68 := Tryz.underlying68
 have hu86 := Tryz.underlying86
 have ht := fun W' (hB : Below W.heap.size W W') => told_any n hn wins hw x hx A c W' (Kd.C_below hr hB) hc
 have hlt := blk_lt hb
 have hc0 : ∀ o, (W.alloc o).cell? ⟨b, 0, none⟩ = some (.int .i64 (n : Int)) := fun o => (World.cell?_alloc_lt _ _ _ (by simpa using hlt)).trans ((blk_cell hb 0).trans rfl)
 have hc1 : ∀ o, (W.alloc o).cell? ⟨b, 1, none⟩ = some (.slice A wins.length c) := fun o => (World.cell?_alloc_lt _ _ _ (by simpa using hlt)).trans ((blk_cell hb 1).trans rfl)
 have HB := Aside0.mk hb
 have HT := Aside0.mk ht
 have HLT := Aside0.mk hlt
 unfold neC
 generalize toldV n wins x = y at HT ⊢
 obtain ⟨k, a, d⟩ := x
 obtain ⟨k', a', d'⟩ := y
 simp only at HT ⊢
 clear hb ht hr hlt hx hw
 generalize wins.length = N at *
 go_enter Tryz.func89, Tryz.ntmps89
 go_wp2
 go_region_held3 (fun w' => w'.cell? ⟨b, 0, none⟩ = some (.int .i64 (n : Int)) ∧ w'.cell? ⟨b, 1, none⟩ = some (.slice A N c) ∧ w'.cell? ⟨W.heap.size, 0, none⟩ = some (.int .i64 k) ∧ w'.cell? ⟨W.heap.size, 1, none⟩ = some (.int .i64 a) ∧ w'.cell? ⟨W.heap.size, 2, none⟩ = some (.int .i64 d)) (go_keep)
  (first | (go_at_call 90; refine (HT.out _ (pw_below_drewN ((Below.refl _ _).alloc (Nat.le_refl _) _) _)).mono ?_; rintro e w1 ⟨rfl, hb1⟩; have hz := blk_below (blk_drewN (heap1_0 W _) _) hb1; have hz0 : w1.cell? ⟨W.heap.size, 0, none⟩ = some (.int .i64 k) := (blk_cell hz 0).trans rfl; have hz1 : w1.cell? ⟨W.heap.size, 1, none⟩ = some (.int .i64 a) := (blk_cell hz 1).trans rfl; have hz2 : w1.cell? ⟨W.heap.size, 2, none⟩ = some (.int .i64 d) := (blk_cell hz 2).trans rfl; have hB2 : Below W.heap.size W w1 := Below.trans (pw_below_drewN ((Below.refl _ _).alloc (Nat.le_refl _) _) _) (hb1.mono (by simp)); have hy := blk_below HB.out hB2; have hy0 : w1.cell? ⟨b, 0, none⟩ = some (.int .i64 (n : Int)) := (blk_cell hy 0).trans rfl; have hy1 : w1.cell? ⟨b, 1, none⟩ = some (.slice A N c) := (blk_cell hy 1).trans rfl; have HB2 := Aside0.mk hB2; clear hb1 hz hy hB2))
 all_goals go_wp2
 all_goals go_ret
 all_goals exact ⟨rfl, HB2.out⟩
def offG (n : Nat) (clues : List S86) (g : S28) : Bool := clues.any fun c => neC (toldV n (tableOf n g.f1) c) c
set_option maxRecDepth 100000 in
set_option maxHeartbeats 2000000 in
theorem solutions_fn1 (n : Nat) (hn : n ≤ 4) (clues : List S86) (hcl : ∀ c ∈ clues, clueB (n : Int) c = true) (x : S28) (hx0 : x.f0 = (n : Int)) (hby : byOk (n : Int) x.f1 = true) (A0 : Option Addr) (c0 : Nat) (Ac : Option Addr) (cc b : Nat) (W : World)
  (hr : Kd.C (Kd.slice 3 (Kd.int .i64)) W A0 x.f1.length x.f1) (hc : x.f1.length ≤ c0) (hrc : Kd.C k86 W Ac clues.length clues) (hb : W.heap[b]? = some (.cells #[.slice Ac clues.length cc] 39 (0, 0))) :
  Calls Tryz.prog 87 #[.agg #[.int .i64 x.f0, .slice A0 x.f1.length c0], .pointer (some ⟨b, 0, none⟩)] W fun e w' => e = .returned (.bool (offG n clues x)) ∧ Below W.heap.size W w' := by
 have hu68 := Tryz.underlying68
 have hu28 := Tryz.underlying28
 have hv := fun W' (hB : Below W.heap.size W W') => impl_Game_votes.calls (n : Int) A0 c0 x.f1 (n : Int) (tableOf n x.f1) W' (Kd.C_below hr hB) hc (by simp [impl_Game_votes.f, impl_votesBy.f, hby])
 have hlt := blk_lt hb
 have hlen : (tableOf n x.f1).length = 2 ^ n := by simp [tableOf]
 have eg : ∀ args w, (callFunc 89 args).run Tryz.prog w = .ok (.enter 89 args) w := enters_of Tryz.func89 (by kernel_rfl) rfl
 rw [offG, hx0]
 have hcf := fun (W' : World) (hB : Below W.heap.size W W') (A : Option Addr) (c b' : Nat) (h1 : Kd.C Kd.bool W' A (tableOf n x.f1).length (tableOf n x.f1)) (h2 : (tableOf n x.f1).length ≤ c) (h3 : W'.heap[b']? = some (.cells #[.int .i64 (n : Int), .slice A (tableOf n x.f1).length c] 68 (0, 0))) =>
  containsFunc_cl (fun c => neC (toldV n (tableOf n x.f1) c) c) 89 #[.pointer (some ⟨b', 0, none⟩)] Ac cc clues W' eg (Kd.C_below hrc hB)
   (fun W2 y hy hB2 => solutions_fn11 n hn _ hlen y (hcl y hy) A c b' W2 (Kd.C_below h1 hB2) h2 (blk_below h3 hB2))
 generalize (clues.any fun c => neC (toldV n (tableOf n x.f1) c) c) = q at hcf ⊢
 generalize tableOf n x.f1 = wins at hv hcf hlen
 have HB := Aside0.mk hb
 have HV := Aside0.mk hv
 have HCF := Aside0.mk hcf
 have HLT := Aside0.mk hlt
 clear hv hcf hb hr hrc hcl hby hlt hx0 hlen eg
 generalize x.f1.length = L at *
 generalize clues.length = M at *
 have hca : ∀ o, (W.alloc o).cell? ⟨b, 0, none⟩ = some (.slice Ac M cc) := fun o => (World.cell?_alloc_lt _ _ _ (by simpa using HLT.out)).trans ((blk_cell HB.out 0).trans rfl)
 go_enter Tryz.func87, Tryz.ntmps87
 go_wp2_with (first | (go_at_call 48; refine (HV.out _ ((Below.refl _ _).alloc (Nat.le_refl _) _)).mono ?_; rintro e w1 ⟨v1, rfl, ho, hb1⟩; obtain ⟨A1, c1, rfl, hl1, hC1⟩ := Kd.R_reads ho; have hbw : Below W.heap.size W w1 := Below.trans ((Below.refl _ _).alloc (Nat.le_refl _) _) (hb1.mono (by simp)); have hca1 : ∀ o, (w1.alloc o).cell? ⟨b, 0, none⟩ = some (.slice Ac M cc) := (fun o => (World.cell?_alloc_lt _ _ _ (by have h1 := HLT.out; have h2 := hbw.size; simp only; omega)).trans ((blk_cell (blk_below HB.out hbw) 0).trans rfl)); have HC1 := Aside0.mk hC1; have HBW := Aside0.mk hbw; clear ho hb1 hC1 hbw) | (go_at_call 88; refine (HCF.out _ (HBW.out.alloc HBW.out.size _) A1 c1 w1.heap.size (Kd.C_alloc HC1.out _) hl1 (heap1_0 _ _)).mono ?_; rintro e w2 ⟨rfl, hb2⟩; have HB2 := Aside0.mk hb2; clear hb2))
 go_ret
 exact ⟨rfl, Below.trans (HBW.out.alloc HBW.out.size _) (HB2.out.mono (by have := HBW.out.size; simp; omega))⟩
end Go.Proofs.YtnncjnjfdhbddaaGreat.Z
namespace Go.Proofs.YtnncjnjfdhbddaaGreat.Z
open Go.RowKit Go.Proofs.YtnncjnjfdhbddaaGreatW.PrintWords Go.Proofs.YtnncjnjfdhbddaaGreatW.PrintLast Go.Proofs.YtnncjnjfdhbddaaGreatW.PrintMore
attribute [local go_sem] max2_int min2_int max_two min_two max_three min_three max_four min_four
set_option linter.unusedVariables false
set_option linter.unusedSimpArgs false
def spec_pzOne.f (a0 : Bool) : Option (Int) := if a0 = true then (some 1) else (some 0)
set_option maxHeartbeats 8000000 in
set_option maxRecDepth 100000 in
theorem spec_pzOne.calls (a0 : Bool) (r : Int) (w : World) (h : spec_pzOne.f a0 = some r) :
  Calls Tryz.prog 176 #[.bool a0] w fun e w' => e = .returned (.int .i64 r) ∧ Drawn0 w w' := by
 have H : (if a0 = true then (some 1) else (some 0)) = some r := h
 clear h
 by_cases c2 : a0 = true
 ·subst c2
  have H1 : (some 1) = some r := by rw [if_pos rfl] at H; exact H
  clear H
  have H := H1
  clear H1
  obtain rfl := Option.some.inj H
  go_enter Tryz.func176, Tryz.ntmps176
  go_wp2
  go_ret
  exact ⟨by first | rfl | (simp; done) | (simp [*]; done), by repeat (first | exact Drawn0.refl _ | apply Drawn0.step)⟩
 ·replace c2 := Bool.eq_false_iff.mpr c2
  subst c2
  have H1 : (some 0) = some r := by rw [if_neg (show ¬ (false = true) by decide)] at H; exact H
  clear H
  have H := H1
  clear H1
  obtain rfl := Option.some.inj H
  go_enter Tryz.func176, Tryz.ntmps176
  go_wp2
  go_ret
  exact ⟨by first | rfl | (simp; done) | (simp [*]; done), by repeat (first | exact Drawn0.refl _ | apply Drawn0.step)⟩
end Go.Proofs.YtnncjnjfdhbddaaGreat.Z
namespace Go.Proofs.YtnncjnjfdhbddaaGreat.Z
open Go.RowKit Go.Proofs.YtnncjnjfdhbddaaGreatW.PrintWords Go.Proofs.YtnncjnjfdhbddaaGreatW.PrintLast Go.Proofs.YtnncjnjfdhbddaaGreatW.PrintMore
attribute [local go_sem] max2_int min2_int max_two min_two max_three min_three max_four min_four
set_option linter.unusedVariables false
set_option linter.unusedSimpArgs false
def spec_pwSwings.l0 : Nat → List Bool → Int → List Int → List Bool → Int → Int → Option (List Int)
 | 0, _, _, _, _, _, _ => none
 | k + 1, x0, x1, x5, x8, x9, x10 => if x10 < x9 then (if 0 ≤ x10 then (if x10 < (x8.length : Int) then (if 0 ≤ x1 then (if (Int.tmod (shr .i64 x10 x1) 2) = 0 then (if rdOf false x8 x10 = true then (spec_pwSwings.l0 k x0 x1 x5 x8 x9 (wrap64 (x10 + 1))) else (if 0 ≤ (wrap64 (x10 + (shl .i64 1 x1))) then (if (wrap64 (x10 + (shl .i64 1 x1))) < (x0.length : Int) then (if rdOf false x0 (wrap64 (x10 + (shl .i64 1 x1))) = true then (if x5.length < 17592186044416 then (spec_pwSwings.l0 k x0 x1 (x5 ++ [x10]) x8 x9 (wrap64 (x10 + 1))) else (none)) else (spec_pwSwings.l0 k x0 x1 x5 x8 x9 (wrap64 (x10 + 1)))) else (none)) else (none))) else (spec_pwSwings.l0 k x0 x1 x5 x8 x9 (wrap64 (x10 + 1)))) else (none)) else (none)) else (none)) else (some x5)
def spec_pwSwings.f (k : Nat) (l0 : List Bool) (a1 : Int) : Option (List Int) := spec_pwSwings.l0 k l0 a1 ([] : List Int) l0 (l0.length : Int) 0
set_option maxHeartbeats 8000000 in
set_option maxRecDepth 100000 in
theorem spec_pwSwings.calls (k : Nat) (A0 : Option Addr) (c0 : Nat) (l0 : List Bool) (a1 : Int) (r : List Int) (w : World) (hr0 : Kd.C Kd.bool w A0 l0.length l0) (hc0 : l0.length ≤ c0) (h : spec_pwSwings.f k l0 a1 = some r) :
  Calls Tryz.prog 177 #[.slice A0 l0.length c0, .int .i64 a1] w fun e w' => ∃ v0_ : Value, e = .returned (v0_) ∧ Kd.R (Kd.int .i64) 3 w' w.heap.size (fun _ => True) v0_ r ∧ Below w.heap.size w w' := by
 have HR0 := Aside0.mk hr0
 have HC0 := Aside0.mk hc0
 clear hr0 hc0
 have HB := Aside0.mk (Below.refl w.heap.size w)
 have H : (spec_pwSwings.l0 k l0 a1 ([] : List Int) l0 (l0.length : Int) 0) = some r := h
 clear h
 have H' := Aside0.mk H
 clear H
 go_enter Tryz.func177, Tryz.ntmps177
 go_wp2
 go_loopg [5, 10] k (fun kq v5 v10 w' => ∃ (x5_1 : List Int) (x10_1 : Int), v10 = .int .i64 x10_1 ∧ Aside0 (spec_pwSwings.l0 kq l0 a1 x5_1 l0 (l0.length : Int) x10_1 = some r) ∧ Aside0 (kq ≤ k) ∧ Aside0 (Kd.R (Kd.int .i64) 3 w' w.heap.size (fun _ => True) v5 x5_1) ∧ Aside0 (Below w.heap.size w w'))
 case atStart => exact ⟨(([] : List Int)), (0), (by first | rfl | (simp; done) | (simp [*]; done)), H', ⟨Nat.le_refl _⟩, ⟨by first | exact Kd.R_nil _ _ _ _ _ | exact Kd.N_nil _ _ _ _ _ | exact Kd.V_nil _ _ _ _ _ | exact Kd.Q_nil _ _ _ _ _ | exact Kd.S_nil _ _ _ _ _⟩, ⟨by repeat (first | (with_reducible first | exact HB.out | apply below_alloc | apply pw_below_drewN | apply below_drew1) | exact HB.out)⟩⟩
 case round =>
  clear H'
  try clear c1
  try clear p2
  obtain ⟨x5_1, x10_1, rfl, HA, HK1, HO_5, HB⟩ := hrel
  cases gk with
  | zero => exact absurd HA.out (by simp [spec_pwSwings.l0])
  | succ k1 =>
   have H := HA.out
   clear HA
   simp only [spec_pwSwings.l0] at H
   by_cases c3 : x10_1 < (l0.length : Int)
   ·rw [if_pos c3] at H
    have c3b0 : decide (x10_1 < (l0.length : Int)) = true := decide_eq_true c3
    clear c3
    by_cases c4 : 0 ≤ x10_1
    ·rw [if_pos c4] at H
     have c4b0 : decide (0 ≤ x10_1) = true := decide_eq_true c4
     clear c4
     by_cases c5 : x10_1 < (l0.length : Int)
     ·rw [if_pos c5] at H
      have c5b0 : decide (x10_1 < (l0.length : Int)) = true := decide_eq_true c5
      clear c5
      by_cases c6 : 0 ≤ a1
      ·rw [if_pos c6] at H
       have c6b0 := eq_true c6
       have c6b1 : decide (0 ≤ a1) = true := decide_eq_true c6
       clear c6
       obtain ⟨ji7, hji7⟩ : ∃ j_ : Int, (shr .i64 x10_1 a1) = j_ := ⟨_, rfl⟩
       replace H : (if (Int.tmod (ji7) 2) = 0 then (if rdOf false l0 x10_1 = true then (spec_pwSwings.l0 k1 l0 a1 x5_1 l0 (l0.length : Int) (wrap64 (x10_1 + 1))) else (if 0 ≤ (wrap64 (x10_1 + (shl .i64 1 a1))) then (if (wrap64 (x10_1 + (shl .i64 1 a1))) < (l0.length : Int) then (if rdOf false l0 (wrap64 (x10_1 + (shl .i64 1 a1))) = true then (if x5_1.length < 17592186044416 then (spec_pwSwings.l0 k1 l0 a1 (x5_1 ++ [x10_1]) l0 (l0.length : Int) (wrap64 (x10_1 + 1))) else (none)) else (spec_pwSwings.l0 k1 l0 a1 x5_1 l0 (l0.length : Int) (wrap64 (x10_1 + 1)))) else (none)) else (none))) else (spec_pwSwings.l0 k1 l0 a1 x5_1 l0 (l0.length : Int) (wrap64 (x10_1 + 1)))) = some r := by first | (rw [hji7] at H; exact H) | (simp only [hji7] at H ⊢; exact H)
       have hji7_ : (x10_1 / 2 ^ min a1.toNat 64) = ji7 := hji7
       have hji7z : a1 ≤ 64 → (x10_1 / 2 ^ a1.toNat) = ji7 := shr_small hji7
       by_cases c8 : (Int.tmod (ji7) 2) = 0
       ·rw [if_pos c8] at H
        have c8b0 : ((Int.tmod (ji7) 2) == 0) = true := beq_iff_eq.mpr c8
        have c8b1 : ((Int.tmod (ji7) 2) != 0) = false := bne_eq_false_iff_eq.mpr c8
        clear c8
        obtain ⟨bq9, hbq9⟩ : ∃ b_ : Bool, b_ = (rdOf false l0 x10_1) := ⟨_, rfl⟩
        replace H : (if bq9 = true then (spec_pwSwings.l0 k1 l0 a1 x5_1 l0 (l0.length : Int) (wrap64 (x10_1 + 1))) else (if 0 ≤ (wrap64 (x10_1 + (shl .i64 1 a1))) then (if (wrap64 (x10_1 + (shl .i64 1 a1))) < (l0.length : Int) then (if rdOf false l0 (wrap64 (x10_1 + (shl .i64 1 a1))) = true then (if x5_1.length < 17592186044416 then (spec_pwSwings.l0 k1 l0 a1 (x5_1 ++ [x10_1]) l0 (l0.length : Int) (wrap64 (x10_1 + 1))) else (none)) else (spec_pwSwings.l0 k1 l0 a1 x5_1 l0 (l0.length : Int) (wrap64 (x10_1 + 1)))) else (none)) else (none))) = some r := by rw [← hbq9] at H; exact H
        have Nbq9 := Aside0.mk hbq9
        clear hbq9
        by_cases c10 : bq9 = true
        ·subst c10
         have H1 : (spec_pwSwings.l0 k1 l0 a1 x5_1 l0 (l0.length : Int) (wrap64 (x10_1 + 1))) = some r := by rw [if_pos rfl] at H; exact H
         clear H
         have H := H1
         clear H1
         have H' := Aside0.mk H
         clear H
         have p627 : 0 ≤ (x10_1 : Int) := of_decide_eq_true (by first | (with_reducible assumption) | assumption)
         have q627 : x10_1 < (l0.length : Int) := of_decide_eq_true (by first | (with_reducible assumption) | assumption)
         obtain ⟨ad627, e627, hx627_0⟩ := Kd.at_bool HR0.out x10_1 p627 q627
         (try rw [← Nbq9.out] at hx627_0)
         cases e627
         replace hx627_0 := (HB.out.cell (World.block_lt_of_cell? w _ hx627_0)).trans hx627_0
         replace p627 := eq_true p627
         replace q627 := eq_true q627
         go_wp2
         go_roundg k1
         case measure => have := HK1.out; omega
         case rel => exact ⟨(x5_1), (wrap64 (x10_1 + 1)), (by first | rfl | (simp; done) | (simp [*]; done)), H', ⟨by have := HK1.out; omega⟩, ⟨by (with_reducible repeat (first | apply Kd.R_alloc | apply Kd.R_drewN | apply Kd.R_drew)); exact HO_5.out⟩, ⟨by repeat (first | (with_reducible first | exact HB.out | apply below_alloc | apply pw_below_drewN | apply below_drew1) | exact HB.out)⟩⟩
        ·replace c10 := Bool.eq_false_iff.mpr c10
         subst c10
         have H1 : (if 0 ≤ (wrap64 (x10_1 + (shl .i64 1 a1))) then (if (wrap64 (x10_1 + (shl .i64 1 a1))) < (l0.length : Int) then (if rdOf false l0 (wrap64 (x10_1 + (shl .i64 1 a1))) = true then (if x5_1.length < 17592186044416 then (spec_pwSwings.l0 k1 l0 a1 (x5_1 ++ [x10_1]) l0 (l0.length : Int) (wrap64 (x10_1 + 1))) else (none)) else (spec_pwSwings.l0 k1 l0 a1 x5_1 l0 (l0.length : Int) (wrap64 (x10_1 + 1)))) else (none)) else (none)) = some r := by rw [if_neg (show ¬ (false = true) by decide)] at H; exact H
         clear H
         have H := H1
         clear H1
         have c11b0 := eq_true (of_decide_eq_true (by first | (with_reducible assumption) | assumption) : 0 ≤ a1)
         obtain ⟨ji12, hji12⟩ : ∃ j_ : Int, (shl .i64 1 a1) = j_ := ⟨_, rfl⟩
         replace H : (if 0 ≤ (wrap64 (x10_1 + (ji12))) then (if (wrap64 (x10_1 + (ji12))) < (l0.length : Int) then (if rdOf false l0 (wrap64 (x10_1 + (ji12))) = true then (if x5_1.length < 17592186044416 then (spec_pwSwings.l0 k1 l0 a1 (x5_1 ++ [x10_1]) l0 (l0.length : Int) (wrap64 (x10_1 + 1))) else (none)) else (spec_pwSwings.l0 k1 l0 a1 x5_1 l0 (l0.length : Int) (wrap64 (x10_1 + 1)))) else (none)) else (none)) = some r := by first | (rw [hji12] at H; exact H) | (simp only [hji12] at H ⊢; exact H)
         have hji12_ : (IntKind.i64.wrap (1 * 2 ^ min a1.toNat 64)) = ji12 := hji12
         have hji12z : a1 ≤ 64 → (IntKind.i64.wrap (1 * 2 ^ a1.toNat)) = ji12 := shl_small hji12
         have hji12u : (IntKind.i64.wrap (2 ^ min a1.toNat 64)) = ji12 := by have h_ := hji12_; rw [Int.one_mul] at h_; exact h_
         have hji12v : a1 ≤ 64 → (IntKind.i64.wrap (2 ^ a1.toNat)) = ji12 := fun hle_ => by have h_ := hji12z hle_; rw [Int.one_mul] at h_; exact h_
         have hji12y : (wrap64 (1 * 2 ^ min a1.toNat 64)) = ji12 := (i64_w _).symm.trans hji12_
         have hji12x : a1 ≤ 64 → (wrap64 (1 * 2 ^ a1.toNat)) = ji12 := fun h_ => (i64_w _).symm.trans (hji12z h_)
         obtain ⟨ji13, hji13⟩ : ∃ j_ : Int, (wrap64 (x10_1 + (ji12))) = j_ := ⟨_, rfl⟩
         replace H : (if 0 ≤ (ji13) then (if (ji13) < (l0.length : Int) then (if rdOf false l0 (ji13) = true then (if x5_1.length < 17592186044416 then (spec_pwSwings.l0 k1 l0 a1 (x5_1 ++ [x10_1]) l0 (l0.length : Int) (wrap64 (x10_1 + 1))) else (none)) else (spec_pwSwings.l0 k1 l0 a1 x5_1 l0 (l0.length : Int) (wrap64 (x10_1 + 1)))) else (none)) else (none)) = some r := by first | (rw [hji13] at H; exact H) | (simp only [hji13] at H ⊢; exact H)
         have hji13w : (IntKind.i64.wrap (x10_1 + (ji12))) = ji13 := (i64_w _).trans hji13
         by_cases c14 : 0 ≤ (ji13)
         ·rw [if_pos c14] at H
          have c14b0 : decide (0 ≤ (ji13)) = true := decide_eq_true c14
          clear c14
          by_cases c15 : (ji13) < (l0.length : Int)
          ·rw [if_pos c15] at H
           have c15b0 : decide ((ji13) < (l0.length : Int)) = true := decide_eq_true c15
           clear c15
           obtain ⟨bq16, hbq16⟩ : ∃ b_ : Bool, b_ = (rdOf false l0 (ji13)) := ⟨_, rfl⟩
           replace H : (if bq16 = true then (if x5_1.length < 17592186044416 then (spec_pwSwings.l0 k1 l0 a1 (x5_1 ++ [x10_1]) l0 (l0.length : Int) (wrap64 (x10_1 + 1))) else (none)) else (spec_pwSwings.l0 k1 l0 a1 x5_1 l0 (l0.length : Int) (wrap64 (x10_1 + 1)))) = some r := by rw [← hbq16] at H; exact H
           have Nbq16 := Aside0.mk hbq16
           clear hbq16
           by_cases c17 : bq16 = true
           ·subst c17
            have H1 : (if x5_1.length < 17592186044416 then (spec_pwSwings.l0 k1 l0 a1 (x5_1 ++ [x10_1]) l0 (l0.length : Int) (wrap64 (x10_1 + 1))) else (none)) = some r := by rw [if_pos rfl] at H; exact H
            clear H
            have H := H1
            clear H1
            by_cases c18 : x5_1.length < 17592186044416
            ·rw [if_pos c18] at H
             have LMc18 := Aside0.mk c18
             clear c18
             obtain ⟨y629, hy629⟩ : ∃ y_ : List Int, y_ = (x5_1 ++ [x10_1]) := ⟨_, rfl⟩
             replace H : (spec_pwSwings.l0 k1 l0 a1 y629 l0 (l0.length : Int) (wrap64 (x10_1 + 1))) = some r := by first | (rw [hy629]; with_reducible exact H) | (have H2_ := (Option.bind_some _ _).symm.trans H; rw [hy629]; with_reducible exact H2_) | (have H2_ := (Option.bind_some _ _).symm.trans H; with_reducible exact H2_) | with_reducible exact H | (rw [hy629]; exact H) | exact H
             have Ny629 := Aside0.mk hy629
             clear hy629
             have H' := Aside0.mk H
             clear H
             have p627 : 0 ≤ (x10_1 : Int) := of_decide_eq_true (by first | (with_reducible assumption) | assumption)
             have q627 : x10_1 < (l0.length : Int) := of_decide_eq_true (by first | (with_reducible assumption) | assumption)
             obtain ⟨ad627, e627, hx627_0⟩ := Kd.at_bool HR0.out x10_1 p627 q627
             (try rw [← Nbq9.out] at hx627_0)
             (try rw [← Nbq16.out] at hx627_0)
             cases e627
             replace hx627_0 := (HB.out.cell (World.block_lt_of_cell? w _ hx627_0)).trans hx627_0
             replace p627 := eq_true p627
             replace q627 := eq_true q627
             have p628 : 0 ≤ ((ji13) : Int) := of_decide_eq_true (by first | (with_reducible assumption) | assumption)
             have q628 : (ji13) < (l0.length : Int) := of_decide_eq_true (by first | (with_reducible assumption) | assumption)
             obtain ⟨ad628, e628, hx628_0⟩ := Kd.at_bool HR0.out (ji13) p628 q628
             (try rw [← Nbq9.out] at hx628_0)
             (try rw [← Nbq16.out] at hx628_0)
             obtain rfl : ad627 = ad628 := (by injection e628)
             replace hx628_0 := (HB.out.cell (World.block_lt_of_cell? w _ hx628_0)).trans hx628_0
             replace p628 := eq_true p628
             replace q628 := eq_true q628
             go_wp2_with (first | ((with_reducible refine gate_builtin (b := .append) (xs := #[.tmp 33, .tmp 35]) rfl ?_); at_builtin; refine Kd.R_append (Kd.int .i64) (w0 := w) w.heap.size rfl (.tmp 33) (.tmp 35) 36 3 (.int .i64 0) 8 rfl Tryz.underlying36 info3 rfl (by decide) (by omega) u5 x5_1 x10_1 [.int .i64 x10_1] (fun _ => True) (fun _ => False) rfl rfl ?aP (fun _ hk => hk.elim) ?aF ?aO ?aB ?aS ?aL ?_; (case aP => exact rfl); (case aB => exact (by repeat (first | (with_reducible first | exact HB.out | apply below_alloc | apply pw_below_drewN | apply below_drew1) | exact HB.out))); (case aF => exact (fun _ _ => trivial)); (case aO => exact (by (with_reducible repeat (first | apply Kd.R_alloc | apply Kd.R_drewN | apply Kd.R_drew)); exact HO_5.out)); (case aS => exact (below_size (by repeat (first | (with_reducible first | exact HB.out | apply below_alloc | apply pw_below_drewN | apply below_drew1) | exact HB.out)))); (case aL => have := LMc18.out; omega); intro v630 w19 ho hb hg hat; rw [← Ny629.out] at ho; have n0_ := Aside0.mk (hb); have n1_ := Aside0.mk (ho); clear HB; clear HO_5; have HB := n0_; have HO631 := n1_; clear n0_ n1_; clear ho hb hg hat))
             go_roundg k1
             case measure => have := HK1.out; omega
             case rel => exact ⟨(y629), (wrap64 (x10_1 + 1)), (by first | rfl | (simp; done) | (simp [*]; done)), H', ⟨by have := HK1.out; omega⟩, ⟨by (with_reducible repeat (first | apply Kd.R_alloc | apply Kd.R_drewN | apply Kd.R_drew)); exact HO631.out⟩, ⟨by repeat (first | (with_reducible first | exact HB.out | apply below_alloc | apply pw_below_drewN | apply below_drew1) | exact HB.out)⟩⟩
            ·rw [if_neg c18] at H
             exact absurd H (by simp)
           ·replace c17 := Bool.eq_false_iff.mpr c17
            subst c17
            have H1 : (spec_pwSwings.l0 k1 l0 a1 x5_1 l0 (l0.length : Int) (wrap64 (x10_1 + 1))) = some r := by rw [if_neg (show ¬ (false = true) by decide)] at H; exact H
            clear H
            have H := H1
            clear H1
            have H' := Aside0.mk H
            clear H
            have p627 : 0 ≤ (x10_1 : Int) := of_decide_eq_true (by first | (with_reducible assumption) | assumption)
            have q627 : x10_1 < (l0.length : Int) := of_decide_eq_true (by first | (with_reducible assumption) | assumption)
            obtain ⟨ad627, e627, hx627_0⟩ := Kd.at_bool HR0.out x10_1 p627 q627
            (try rw [← Nbq9.out] at hx627_0)
            (try rw [← Nbq16.out] at hx627_0)
            cases e627
            replace hx627_0 := (HB.out.cell (World.block_lt_of_cell? w _ hx627_0)).trans hx627_0
            replace p627 := eq_true p627
            replace q627 := eq_true q627
            have p628 : 0 ≤ ((ji13) : Int) := of_decide_eq_true (by first | (with_reducible assumption) | assumption)
            have q628 : (ji13) < (l0.length : Int) := of_decide_eq_true (by first | (with_reducible assumption) | assumption)
            obtain ⟨ad628, e628, hx628_0⟩ := Kd.at_bool HR0.out (ji13) p628 q628
            (try rw [← Nbq9.out] at hx628_0)
            (try rw [← Nbq16.out] at hx628_0)
            obtain rfl : ad627 = ad628 := (by injection e628)
            replace hx628_0 := (HB.out.cell (World.block_lt_of_cell? w _ hx628_0)).trans hx628_0
            replace p628 := eq_true p628
            replace q628 := eq_true q628
            go_wp2
            go_roundg k1
            case measure => have := HK1.out; omega
            case rel => exact ⟨(x5_1), (wrap64 (x10_1 + 1)), (by first | rfl | (simp; done) | (simp [*]; done)), H', ⟨by have := HK1.out; omega⟩, ⟨by (with_reducible repeat (first | apply Kd.R_alloc | apply Kd.R_drewN | apply Kd.R_drew)); exact HO_5.out⟩, ⟨by repeat (first | (with_reducible first | exact HB.out | apply below_alloc | apply pw_below_drewN | apply below_drew1) | exact HB.out)⟩⟩
          ·rw [if_neg c15] at H
           exact absurd H (by simp)
         ·rw [if_neg c14] at H
          exact absurd H (by simp)
       ·rw [if_neg c8] at H
        have c8b0 : ((Int.tmod (ji7) 2) == 0) = false := beq_eq_false_iff_ne.mpr c8
        have c8b1 : ((Int.tmod (ji7) 2) != 0) = true := bne_iff_ne.mpr c8
        have H' := Aside0.mk H
        clear H
        have p627 : 0 ≤ (x10_1 : Int) := of_decide_eq_true (by first | (with_reducible assumption) | assumption)
        have q627 : x10_1 < (l0.length : Int) := of_decide_eq_true (by first | (with_reducible assumption) | assumption)
        obtain ⟨ad627, e627, hx627_0⟩ := Kd.at_bool HR0.out x10_1 p627 q627
        cases e627
        replace hx627_0 := (HB.out.cell (World.block_lt_of_cell? w _ hx627_0)).trans hx627_0
        replace p627 := eq_true p627
        replace q627 := eq_true q627
        go_wp2
        go_roundg k1
        case measure => have := HK1.out; omega
        case rel => exact ⟨(x5_1), (wrap64 (x10_1 + 1)), (by first | rfl | (simp; done) | (simp [*]; done)), H', ⟨by have := HK1.out; omega⟩, ⟨by (with_reducible repeat (first | apply Kd.R_alloc | apply Kd.R_drewN | apply Kd.R_drew)); exact HO_5.out⟩, ⟨by repeat (first | (with_reducible first | exact HB.out | apply below_alloc | apply pw_below_drewN | apply below_drew1) | exact HB.out)⟩⟩
      ·rw [if_neg c6] at H
       exact absurd H (by simp)
     ·rw [if_neg c5] at H
      exact absurd H (by simp)
    ·rw [if_neg c4] at H
     exact absurd H (by simp)
   ·rw [if_neg c3] at H
    have c3b0 : decide (x10_1 < (l0.length : Int)) = false := decide_eq_false c3
    clear c3
    obtain rfl := Option.some.inj H
    go_wp2
    go_ret
    exact ⟨_, by first | rfl | (simp [errW_none, errW_some] <;> rfl) | (simp [*, errW_none, errW_some] <;> rfl), by (with_reducible repeat (first | apply Kd.R_alloc | apply Kd.R_drewN | apply Kd.R_drew)); exact HO_5.out, by repeat (first | (with_reducible first | exact HB.out | apply below_alloc | apply pw_below_drewN | apply below_drew1) | exact HB.out)⟩
end Go.Proofs.YtnncjnjfdhbddaaGreat.Z
namespace Go.Proofs.YtnncjnjfdhbddaaGreat.Z
open Go.RowKit Go.Proofs.YtnncjnjfdhbddaaGreatW.PrintWords Go.Proofs.YtnncjnjfdhbddaaGreatW.PrintLast Go.Proofs.YtnncjnjfdhbddaaGreatW.PrintMore
attribute [local go_sem] max2_int min2_int max_two min_two max_three min_three max_four min_four
set_option linter.unusedVariables false
set_option linter.unusedSimpArgs false
mutual
def spec_pzValue.l0 : Nat → Int → List Bool → Int → Int → Option (Int)
 | 0, _, _, _, _ => none
 | k + 1, x8, x25, x26, x27 => if x27 < x26 then (if 0 ≤ x27 then (if x27 < (x25.length : Int) then ((spec_pzOne.f (rdOf false x25 x27)).bind fun t635 => (spec_pzValue.l0 k (wrap64 (x8 + t635)) x25 x26 (wrap64 (x27 + 1)))) else (none)) else (none)) else (some x8)
def spec_pzValue.l1 : Nat → Int → List Bool → Int → Int → Int → Option (Int)
 | 0, _, _, _, _, _ => none
 | k + 1, x0, x2, x7, x55, x56 => if x56 < x55 then (if x0 = 4 then (if 0 ≤ x56 then (if x56 < (x2.length : Int) then (if rdOf false x2 x56 = true then (if 0 ≤ (wrap64 (x7 - x56)) then (if (wrap64 (x7 - x56)) < (x2.length : Int) then (if rdOf false x2 (wrap64 (x7 - x56)) = true then (some 0) else (if x0 = 5 then (spec_pzValue.l1 k x0 x2 x7 x55 (wrap64 (x56 + 1))) else (spec_pzValue.l1 k x0 x2 x7 x55 (wrap64 (x56 + 1))))) else (none)) else (none)) else (if x0 = 5 then (if 0 ≤ (wrap64 (x7 - x56)) then (if (wrap64 (x7 - x56)) < (x2.length : Int) then (if (rdOf false x2 (wrap64 (x7 - x56)) = true) then (spec_pzValue.l1 k x0 x2 x7 x55 (wrap64 (x56 + 1))) else (some 0)) else (none)) else (none)) else (spec_pzValue.l1 k x0 x2 x7 x55 (wrap64 (x56 + 1))))) else (none)) else (none)) else (if x0 = 5 then (if 0 ≤ x56 then (if x56 < (x2.length : Int) then (if rdOf false x2 x56 = true then (spec_pzValue.l1 k x0 x2 x7 x55 (wrap64 (x56 + 1))) else (if 0 ≤ (wrap64 (x7 - x56)) then (if (wrap64 (x7 - x56)) < (x2.length : Int) then (if (rdOf false x2 (wrap64 (x7 - x56)) = true) then (spec_pzValue.l1 k x0 x2 x7 x55 (wrap64 (x56 + 1))) else (some 0)) else (none)) else (none))) else (none)) else (none)) else (spec_pzValue.l1 k x0 x2 x7 x55 (wrap64 (x56 + 1))))) else (some 1)
end
def spec_pzValue.f (k : Nat) (a0 : Int) (a1 : Int) (l2 : List Bool) : Option (Int) := if a0 = 0 then (if 0 ≤ a1 then (if a1 < (l2.length : Int) then ((spec_pzOne.f (rdOf false l2 a1)).bind fun t633 => (some t633)) else (none)) else (none)) else (if a0 = 1 then (spec_pzValue.l0 k 0 l2 (l2.length : Int) 0) else (if a0 = 2 then (if 0 ≤ a1 then (if 0 ≤ (wrap64 ((wrap64 ((l2.length : Int) - 1)) - (shl .i64 1 a1))) then (if (wrap64 ((wrap64 ((l2.length : Int) - 1)) - (shl .i64 1 a1))) < (l2.length : Int) then ((spec_pzOne.f (!(rdOf false l2 (wrap64 ((wrap64 ((l2.length : Int) - 1)) - (shl .i64 1 a1)))))).bind fun t637 => (some t637)) else (none)) else (none)) else (none)) else (if a0 = 3 then ((spec_pwSwings.f k l2 a1).bind fun t638 => (some (t638.length : Int))) else (spec_pzValue.l1 k a0 l2 (wrap64 ((l2.length : Int) - 1)) (l2.length : Int) 0))))
set_option maxHeartbeats 8000000 in
set_option maxRecDepth 100000 in
theorem spec_pzValue.calls (k : Nat) (a0 : Int) (a1 : Int) (A2 : Option Addr) (c2 : Nat) (l2 : List Bool) (r : Int) (w : World) (hr2 : Kd.C Kd.bool w A2 l2.length l2) (hc2 : l2.length ≤ c2) (h : spec_pzValue.f k a0 a1 l2 = some r) :
  Calls Tryz.prog 153 #[.int .i64 a0, .int .i64 a1, .slice A2 l2.length c2] w fun e w' => e = .returned (.int .i64 r) ∧ Below w.heap.size w w' := by
 have HR2 := Aside0.mk hr2
 have HC2 := Aside0.mk hc2
 clear hr2 hc2
 have HB := Aside0.mk (Below.refl w.heap.size w)
 have H : (if a0 = 0 then (if 0 ≤ a1 then (if a1 < (l2.length : Int) then ((spec_pzOne.f (rdOf false l2 a1)).bind fun t633 => (some t633)) else (none)) else (none)) else (if a0 = 1 then (spec_pzValue.l0 k 0 l2 (l2.length : Int) 0) else (if a0 = 2 then (if 0 ≤ a1 then (if 0 ≤ (wrap64 ((wrap64 ((l2.length : Int) - 1)) - (shl .i64 1 a1))) then (if (wrap64 ((wrap64 ((l2.length : Int) - 1)) - (shl .i64 1 a1))) < (l2.length : Int) then ((spec_pzOne.f (!(rdOf false l2 (wrap64 ((wrap64 ((l2.length : Int) - 1)) - (shl .i64 1 a1)))))).bind fun t637 => (some t637)) else (none)) else (none)) else (none)) else (if a0 = 3 then ((spec_pwSwings.f k l2 a1).bind fun t638 => (some (t638.length : Int))) else (spec_pzValue.l1 k a0 l2 (wrap64 ((l2.length : Int) - 1)) (l2.length : Int) 0))))) = some r := h
 clear h
 by_cases c4 : a0 = 0
 ·rw [if_pos c4] at H
  have c4b0 : (a0 == 0) = true := beq_iff_eq.mpr c4
  have c4b1 : (a0 != 0) = false := bne_eq_false_iff_eq.mpr c4
  clear c4
  by_cases c5 : 0 ≤ a1
  ·rw [if_pos c5] at H
   have c5b0 : decide (0 ≤ a1) = true := decide_eq_true c5
   clear c5
   by_cases c6 : a1 < (l2.length : Int)
   ·rw [if_pos c6] at H
    have c6b0 : decide (a1 < (l2.length : Int)) = true := decide_eq_true c6
    clear c6
    replace H := Option.bind_eq_some_iff.mp H
    obtain ⟨t633, A70, H⟩ := H
    replace H : (some t633) = some r := H
    have A7 := Aside0.mk A70
    clear A70
    obtain rfl := Option.some.inj H
    have p632 : 0 ≤ (a1 : Int) := of_decide_eq_true (by first | (with_reducible assumption) | assumption)
    have q632 : a1 < (l2.length : Int) := of_decide_eq_true (by first | (with_reducible assumption) | assumption)
    obtain ⟨ad632, e632, hx632_0⟩ := Kd.at_bool HR2.out a1 p632 q632
    cases e632
    replace p632 := eq_true p632
    replace q632 := eq_true q632
    go_enter Tryz.func153, Tryz.ntmps153
    go_wp2_with (first | ((with_reducible refine gate_callee (f := 176) rfl ?_); refine goesL_ (some 22) rfl rfl Tryz.func176 (by kernel_rfl) rfl #[.bool (rdOf false l2 a1)] rfl (by (try simp only [List.map_toArray, List.map_cons, List.map_nil]); first | done | rfl | (simp only [List.length_drop, List.length_take]; rfl)) ?_; (with_reducible refine (spec_pzOne.calls (rdOf false l2 a1) t633 _ A7.out).mono ?_); rintro e w' ⟨rfl, ⟨nd, rfl⟩⟩; refine ⟨_, rfl, ?_⟩))
    go_ret
    exact ⟨by first | rfl | (simp [errW_none, errW_some] <;> rfl) | (simp [*, errW_none, errW_some] <;> rfl), by repeat (first | (with_reducible first | exact HB.out | apply below_alloc | apply pw_below_drewN | apply below_drew1) | exact HB.out)⟩
   ·rw [if_neg c6] at H
    exact absurd H (by simp)
  ·rw [if_neg c5] at H
   exact absurd H (by simp)
 ·rw [if_neg c4] at H
  have c4b0 : (a0 == 0) = false := beq_eq_false_iff_ne.mpr c4
  have c4b1 : (a0 != 0) = true := bne_iff_ne.mpr c4
  by_cases c8 : a0 = 1
  ·rw [if_pos c8] at H
   have c8b0 : (a0 == 1) = true := beq_iff_eq.mpr c8
   have c8b1 : (a0 != 1) = false := bne_eq_false_iff_eq.mpr c8
   clear c8
   have H' := Aside0.mk H
   clear H
   go_enter Tryz.func153, Tryz.ntmps153
   go_wp2
   go_loopg [8, 27] k (fun kq v8 v27 w' => ∃ (x8_1 : Int) (x27_1 : Int), v8 = .int .i64 x8_1 ∧ v27 = .int .i64 x27_1 ∧ Aside0 (spec_pzValue.l0 kq x8_1 l2 (l2.length : Int) x27_1 = some r) ∧ Aside0 (kq ≤ k) ∧ Aside0 (Below w.heap.size w w'))
   case atStart => exact ⟨(0), (0), (by first | rfl | (simp; done) | (simp [*]; done)), (by first | rfl | (simp; done) | (simp [*]; done)), H', ⟨Nat.le_refl _⟩, ⟨by repeat (first | (with_reducible first | exact HB.out | apply below_alloc | apply pw_below_drewN | apply below_drew1) | exact HB.out)⟩⟩
   case round =>
    clear H'
    try clear c1
    try clear c2
    try clear p2
    try clear c4
    try clear c4b0
    try clear c4b1
    try clear c5
    try clear c5b0
    try clear c6
    try clear c6b0
    try clear p6
    try clear q6
    try clear hx6
    try clear c8
    try clear c8b0
    try clear c8b1
    try clear hx632_0
    try clear p632
    try clear q632
    obtain ⟨x8_1, x27_1, rfl, rfl, HA, HK1, HB⟩ := hrel
    cases gk with
    | zero => exact absurd HA.out (by simp [spec_pzValue.l0])
    | succ k1 =>
     have H := HA.out
     clear HA
     simp only [spec_pzValue.l0] at H
     by_cases c9 : x27_1 < (l2.length : Int)
     ·rw [if_pos c9] at H
      have c9b0 : decide (x27_1 < (l2.length : Int)) = true := decide_eq_true c9
      clear c9
      by_cases c10 : 0 ≤ x27_1
      ·rw [if_pos c10] at H
       have c10b0 : decide (0 ≤ x27_1) = true := decide_eq_true c10
       clear c10
       by_cases c11 : x27_1 < (l2.length : Int)
       ·rw [if_pos c11] at H
        have c11b0 : decide (x27_1 < (l2.length : Int)) = true := decide_eq_true c11
        clear c11
        replace H := Option.bind_eq_some_iff.mp H
        obtain ⟨t635, A120, H⟩ := H
        replace H : (spec_pzValue.l0 k1 (wrap64 (x8_1 + t635)) l2 (l2.length : Int) (wrap64 (x27_1 + 1))) = some r := H
        have A12 := Aside0.mk A120
        clear A120
        have H' := Aside0.mk H
        clear H
        have p634 : 0 ≤ (x27_1 : Int) := of_decide_eq_true (by first | (with_reducible assumption) | assumption)
        have q634 : x27_1 < (l2.length : Int) := of_decide_eq_true (by first | (with_reducible assumption) | assumption)
        obtain ⟨ad634, e634, hx634_0⟩ := Kd.at_bool HR2.out x27_1 p634 q634
        cases e634
        replace hx634_0 := (HB.out.cell (World.block_lt_of_cell? w _ hx634_0)).trans hx634_0
        replace p634 := eq_true p634
        replace q634 := eq_true q634
        go_wp2_with (first | ((with_reducible refine gate_callee (f := 176) rfl ?_); refine goesL_ (some 33) rfl rfl Tryz.func176 (by kernel_rfl) rfl #[.bool (rdOf false l2 x27_1)] rfl (by (try simp only [List.map_toArray, List.map_cons, List.map_nil]); first | done | rfl | (simp only [List.length_drop, List.length_take]; rfl)) ?_; (with_reducible refine (spec_pzOne.calls (rdOf false l2 x27_1) t635 _ A12.out).mono ?_); rintro e w' ⟨rfl, ⟨nd, rfl⟩⟩; refine ⟨_, rfl, ?_⟩))
        go_roundg k1
        case measure => have := HK1.out; omega
        case rel => exact ⟨(wrap64 (x8_1 + t635)), (wrap64 (x27_1 + 1)), (by first | rfl | (simp; done) | (simp [*]; done)), (by first | rfl | (simp; done) | (simp [*]; done)), H', ⟨by have := HK1.out; omega⟩, ⟨by repeat (first | (with_reducible first | exact HB.out | apply below_alloc | apply pw_below_drewN | apply below_drew1) | exact HB.out)⟩⟩
       ·rw [if_neg c11] at H
        exact absurd H (by simp)
      ·rw [if_neg c10] at H
       exact absurd H (by simp)
     ·rw [if_neg c9] at H
      have c9b0 : decide (x27_1 < (l2.length : Int)) = false := decide_eq_false c9
      clear c9
      obtain rfl := Option.some.inj H
      go_wp2
      go_ret
      exact ⟨by first | rfl | (simp [errW_none, errW_some] <;> rfl) | (simp [*, errW_none, errW_some] <;> rfl), by repeat (first | (with_reducible first | exact HB.out | apply below_alloc | apply pw_below_drewN | apply below_drew1) | exact HB.out)⟩
  ·rw [if_neg c8] at H
   have c8b0 : (a0 == 1) = false := beq_eq_false_iff_ne.mpr c8
   have c8b1 : (a0 != 1) = true := bne_iff_ne.mpr c8
   by_cases c13 : a0 = 2
   ·rw [if_pos c13] at H
    have c13b0 : (a0 == 2) = true := beq_iff_eq.mpr c13
    have c13b1 : (a0 != 2) = false := bne_eq_false_iff_eq.mpr c13
    clear c13
    by_cases c14 : 0 ≤ a1
    ·rw [if_pos c14] at H
     have c14b0 := eq_true c14
     have c14b1 : decide (0 ≤ a1) = true := decide_eq_true c14
     clear c14
     obtain ⟨ji15, hji15⟩ : ∃ j_ : Int, (shl .i64 1 a1) = j_ := ⟨_, rfl⟩
     replace H : (if 0 ≤ (wrap64 ((wrap64 ((l2.length : Int) - 1)) - (ji15))) then (if (wrap64 ((wrap64 ((l2.length : Int) - 1)) - (ji15))) < (l2.length : Int) then ((spec_pzOne.f (!(rdOf false l2 (wrap64 ((wrap64 ((l2.length : Int) - 1)) - (ji15)))))).bind fun t637 => (some t637)) else (none)) else (none)) = some r := by first | (rw [hji15] at H; exact H) | (simp only [hji15] at H ⊢; exact H)
     have hji15_ : (IntKind.i64.wrap (1 * 2 ^ min a1.toNat 64)) = ji15 := hji15
     have hji15z : a1 ≤ 64 → (IntKind.i64.wrap (1 * 2 ^ a1.toNat)) = ji15 := shl_small hji15
     have hji15u : (IntKind.i64.wrap (2 ^ min a1.toNat 64)) = ji15 := by have h_ := hji15_; rw [Int.one_mul] at h_; exact h_
     have hji15v : a1 ≤ 64 → (IntKind.i64.wrap (2 ^ a1.toNat)) = ji15 := fun hle_ => by have h_ := hji15z hle_; rw [Int.one_mul] at h_; exact h_
     have hji15y : (wrap64 (1 * 2 ^ min a1.toNat 64)) = ji15 := (i64_w _).symm.trans hji15_
     have hji15x : a1 ≤ 64 → (wrap64 (1 * 2 ^ a1.toNat)) = ji15 := fun h_ => (i64_w _).symm.trans (hji15z h_)
     obtain ⟨ji16, hji16⟩ : ∃ j_ : Int, (wrap64 ((wrap64 ((l2.length : Int) - 1)) - (ji15))) = j_ := ⟨_, rfl⟩
     replace H : (if 0 ≤ (ji16) then (if (ji16) < (l2.length : Int) then ((spec_pzOne.f (!(rdOf false l2 (ji16)))).bind fun t637 => (some t637)) else (none)) else (none)) = some r := by first | (rw [hji16] at H; exact H) | (simp only [hji16] at H ⊢; exact H)
     have hji16w : (IntKind.i64.wrap ((wrap64 ((l2.length : Int) - 1)) - (ji15))) = ji16 := (i64_w _).trans hji16
     by_cases c17 : 0 ≤ (ji16)
     ·rw [if_pos c17] at H
      have c17b0 : decide (0 ≤ (ji16)) = true := decide_eq_true c17
      clear c17
      by_cases c18 : (ji16) < (l2.length : Int)
      ·rw [if_pos c18] at H
       have c18b0 : decide ((ji16) < (l2.length : Int)) = true := decide_eq_true c18
       clear c18
       replace H := Option.bind_eq_some_iff.mp H
       obtain ⟨t637, A190, H⟩ := H
       replace H : (some t637) = some r := H
       have A19 := Aside0.mk A190
       clear A190
       obtain rfl := Option.some.inj H
       have p636 : 0 ≤ ((ji16) : Int) := of_decide_eq_true (by first | (with_reducible assumption) | assumption)
       have q636 : (ji16) < (l2.length : Int) := of_decide_eq_true (by first | (with_reducible assumption) | assumption)
       obtain ⟨ad636, e636, hx636_0⟩ := Kd.at_bool HR2.out (ji16) p636 q636
       cases e636
       replace p636 := eq_true p636
       replace q636 := eq_true q636
       go_enter Tryz.func153, Tryz.ntmps153
       go_wp2_with (first | ((with_reducible refine gate_callee (f := 176) rfl ?_); refine goesL_ (some 47) rfl rfl Tryz.func176 (by kernel_rfl) rfl #[.bool (!(rdOf false l2 (ji16)))] rfl (by (try simp only [List.map_toArray, List.map_cons, List.map_nil]); first | done | (simp only [hji16]; rfl) | rfl | (simp only [List.length_drop, List.length_take]; rfl)) ?_; (with_reducible refine (spec_pzOne.calls (!(rdOf false l2 (ji16))) t637 _ A19.out).mono ?_); rintro e w' ⟨rfl, ⟨nd, rfl⟩⟩; refine ⟨_, rfl, ?_⟩))
       go_ret
       exact ⟨by first | rfl | (simp [errW_none, errW_some] <;> rfl) | (simp only [← hji15, ← hji16]; first | rfl | (simp [errW_none, errW_some] <;> rfl)) | (simp [*, errW_none, errW_some] <;> rfl), by repeat (first | (with_reducible first | exact HB.out | apply below_alloc | apply pw_below_drewN | apply below_drew1) | exact HB.out)⟩
      ·rw [if_neg c18] at H
       exact absurd H (by simp)
     ·rw [if_neg c17] at H
      exact absurd H (by simp)
    ·rw [if_neg c14] at H
     exact absurd H (by simp)
   ·rw [if_neg c13] at H
    have c13b0 : (a0 == 2) = false := beq_eq_false_iff_ne.mpr c13
    have c13b1 : (a0 != 2) = true := bne_iff_ne.mpr c13
    by_cases c20 : a0 = 3
    ·rw [if_pos c20] at H
     have c20b0 : (a0 == 3) = true := beq_iff_eq.mpr c20
     have c20b1 : (a0 != 3) = false := bne_eq_false_iff_eq.mpr c20
     clear c20
     replace H := Option.bind_eq_some_iff.mp H
     obtain ⟨t638, A210, H⟩ := H
     replace H : (some (t638.length : Int)) = some r := H
     have A21 := Aside0.mk A210
     clear A210
     obtain rfl := Option.some.inj H
     go_enter Tryz.func153, Tryz.ntmps153
     go_wp2_with (first | ((with_reducible refine gate_callee (f := 177) rfl ?_); refine goesL_ (some 52) rfl rfl Tryz.func177 (by kernel_rfl) rfl #[.slice A2 l2.length c2, .int .i64 a1] rfl (by (try simp only [List.map_toArray, List.map_cons, List.map_nil]); first | done | rfl | (simp only [List.length_drop, List.length_take]; rfl)) ?_; (with_reducible refine (spec_pwSwings.calls k _ _ l2 a1 t638 _ ?side1 ?side2 A21.out).mono ?_); (case side1 => repeat (first | exact HR2.out | (with_reducible refine Kd.C_alloc ?_ _) | (with_reducible refine Kd.C_drewN ?_ _) | (with_reducible refine Kd.C_drew ?_))); (case side2 => exact HC2.out); rintro e w22 ⟨v639, rfl, ho0, hb⟩; refine ⟨_, rfl, ?_⟩; have n0_ := Aside0.mk (Kd.R_lower ho0 (below_size (by repeat (first | (with_reducible first | exact HB.out | apply below_alloc | apply pw_below_drewN | apply below_drew1) | exact HB.out)))); have n1_ := Aside0.mk (below_step (by repeat (first | (with_reducible first | exact HB.out | apply below_alloc | apply pw_below_drewN | apply below_drew1) | exact HB.out)) hb); clear HB; have HO640 := n0_; have HB := n1_; clear n0_ n1_; (try clear hb); (try clear hb2); (try clear hk); (try clear hi); (try clear ho0); obtain ⟨Ao23, co23, eo23⟩ := Kd.R_slice HO640.out; subst eo23))
     go_ret
     exact ⟨by first | rfl | (simp [errW_none, errW_some] <;> rfl) | (simp [*, errW_none, errW_some] <;> rfl), by repeat (first | (with_reducible first | exact HB.out | apply below_alloc | apply pw_below_drewN | apply below_drew1) | exact HB.out)⟩
    ·rw [if_neg c20] at H
     have c20b0 : (a0 == 3) = false := beq_eq_false_iff_ne.mpr c20
     have c20b1 : (a0 != 3) = true := bne_iff_ne.mpr c20
     have H' := Aside0.mk H
     clear H
     go_enter Tryz.func153, Tryz.ntmps153
     go_wp2
     go_loopg [56] k (fun kq v56 w' => ∃ (x56_1 : Int), v56 = .int .i64 x56_1 ∧ Aside0 (spec_pzValue.l1 kq a0 l2 (wrap64 ((l2.length : Int) - 1)) (l2.length : Int) x56_1 = some r) ∧ Aside0 (kq ≤ k) ∧ Aside0 (Below w.heap.size w w'))
     case atStart => exact ⟨(0), (by first | rfl | (simp; done) | (simp [*]; done)), H', ⟨Nat.le_refl _⟩, ⟨by repeat (first | (with_reducible first | exact HB.out | apply below_alloc | apply pw_below_drewN | apply below_drew1) | exact HB.out)⟩⟩
     case round =>
      clear H'
      try clear c1
      try clear c2
      try clear p2
      try clear c4
      try clear c4b0
      try clear c4b1
      try clear c5
      try clear c5b0
      try clear c6
      try clear c6b0
      try clear p6
      try clear q6
      try clear hx6
      try clear c8
      try clear c8b0
      try clear c8b1
      try clear c9
      try clear c9b0
      try clear c10
      try clear c10b0
      try clear c11
      try clear c11b0
      try clear c13
      try clear c13b0
      try clear c13b1
      try clear c14
      try clear c14b0
      try clear c14b1
      try clear c15
      try clear c17
      try clear c17b0
      try clear c18
      try clear c18b0
      try clear c20
      try clear c20b0
      try clear c20b1
      try clear hx632_0
      try clear hx634_0
      try clear hx636_0
      try clear p2
      try clear p6
      try clear p632
      try clear p634
      try clear p636
      try clear q6
      try clear q632
      try clear q634
      try clear q636
      obtain ⟨x56_1, rfl, HA, HK1, HB⟩ := hrel
      cases gk with
      | zero => exact absurd HA.out (by simp [spec_pzValue.l1])
      | succ k1 =>
       have H := HA.out
       clear HA
       simp only [spec_pzValue.l1] at H
       by_cases c24 : x56_1 < (l2.length : Int)
       ·rw [if_pos c24] at H
        have c24b0 : decide (x56_1 < (l2.length : Int)) = true := decide_eq_true c24
        clear c24
        by_cases c25 : a0 = 4
        ·rw [if_pos c25] at H
         have c25b0 : (a0 == 4) = true := beq_iff_eq.mpr c25
         have c25b1 : (a0 != 4) = false := bne_eq_false_iff_eq.mpr c25
         clear c25
         by_cases c26 : 0 ≤ x56_1
         ·rw [if_pos c26] at H
          have c26b0 : decide (0 ≤ x56_1) = true := decide_eq_true c26
          clear c26
          by_cases c27 : x56_1 < (l2.length : Int)
          ·rw [if_pos c27] at H
           have c27b0 : decide (x56_1 < (l2.length : Int)) = true := decide_eq_true c27
           clear c27
           obtain ⟨bq28, hbq28⟩ : ∃ b_ : Bool, b_ = (rdOf false l2 x56_1) := ⟨_, rfl⟩
           replace H : (if bq28 = true then (if 0 ≤ (wrap64 ((wrap64 ((l2.length : Int) - 1)) - x56_1)) then (if (wrap64 ((wrap64 ((l2.length : Int) - 1)) - x56_1)) < (l2.length : Int) then (if rdOf false l2 (wrap64 ((wrap64 ((l2.length : Int) - 1)) - x56_1)) = true then (some 0) else (if a0 = 5 then (spec_pzValue.l1 k1 a0 l2 (wrap64 ((l2.length : Int) - 1)) (l2.length : Int) (wrap64 (x56_1 + 1))) else (spec_pzValue.l1 k1 a0 l2 (wrap64 ((l2.length : Int) - 1)) (l2.length : Int) (wrap64 (x56_1 + 1))))) else (none)) else (none)) else (if a0 = 5 then (if 0 ≤ (wrap64 ((wrap64 ((l2.length : Int) - 1)) - x56_1)) then (if (wrap64 ((wrap64 ((l2.length : Int) - 1)) - x56_1)) < (l2.length : Int) then (if (rdOf false l2 (wrap64 ((wrap64 ((l2.length : Int) - 1)) - x56_1)) = true) then (spec_pzValue.l1 k1 a0 l2 (wrap64 ((l2.length : Int) - 1)) (l2.length : Int) (wrap64 (x56_1 + 1))) else (some 0)) else (none)) else (none)) else (spec_pzValue.l1 k1 a0 l2 (wrap64 ((l2.length : Int) - 1)) (l2.length : Int) (wrap64 (x56_1 + 1))))) = some r := by rw [← hbq28] at H; exact H
           have Nbq28 := Aside0.mk hbq28
           clear hbq28
           by_cases c29 : bq28 = true
           ·subst c29
            have H1 : (if 0 ≤ (wrap64 ((wrap64 ((l2.length : Int) - 1)) - x56_1)) then (if (wrap64 ((wrap64 ((l2.length : Int) - 1)) - x56_1)) < (l2.length : Int) then (if rdOf false l2 (wrap64 ((wrap64 ((l2.length : Int) - 1)) - x56_1)) = true then (some 0) else (if a0 = 5 then (spec_pzValue.l1 k1 a0 l2 (wrap64 ((l2.length : Int) - 1)) (l2.length : Int) (wrap64 (x56_1 + 1))) else (spec_pzValue.l1 k1 a0 l2 (wrap64 ((l2.length : Int) - 1)) (l2.length : Int) (wrap64 (x56_1 + 1))))) else (none)) else (none)) = some r := by rw [if_pos rfl] at H; exact H
            clear H
            have H := H1
            clear H1
            obtain ⟨ji30, hji30⟩ : ∃ j_ : Int, (wrap64 ((wrap64 ((l2.length : Int) - 1)) - x56_1)) = j_ := ⟨_, rfl⟩
            replace H : (if 0 ≤ (ji30) then (if (ji30) < (l2.length : Int) then (if rdOf false l2 (ji30) = true then (some 0) else (if a0 = 5 then (spec_pzValue.l1 k1 a0 l2 (wrap64 ((l2.length : Int) - 1)) (l2.length : Int) (wrap64 (x56_1 + 1))) else (spec_pzValue.l1 k1 a0 l2 (wrap64 ((l2.length : Int) - 1)) (l2.length : Int) (wrap64 (x56_1 + 1))))) else (none)) else (none)) = some r := by first | (rw [hji30] at H; exact H) | (simp only [hji30] at H ⊢; exact H)
            have hji30w : (IntKind.i64.wrap ((wrap64 ((l2.length : Int) - 1)) - x56_1)) = ji30 := (i64_w _).trans hji30
            by_cases c31 : 0 ≤ (ji30)
            ·rw [if_pos c31] at H
             have c31b0 : decide (0 ≤ (ji30)) = true := decide_eq_true c31
             clear c31
             by_cases c32 : (ji30) < (l2.length : Int)
             ·rw [if_pos c32] at H
              have c32b0 : decide ((ji30) < (l2.length : Int)) = true := decide_eq_true c32
              clear c32
              obtain ⟨bq33, hbq33⟩ : ∃ b_ : Bool, b_ = (rdOf false l2 (ji30)) := ⟨_, rfl⟩
              replace H : (if bq33 = true then (some 0) else (if a0 = 5 then (spec_pzValue.l1 k1 a0 l2 (wrap64 ((l2.length : Int) - 1)) (l2.length : Int) (wrap64 (x56_1 + 1))) else (spec_pzValue.l1 k1 a0 l2 (wrap64 ((l2.length : Int) - 1)) (l2.length : Int) (wrap64 (x56_1 + 1))))) = some r := by rw [← hbq33] at H; exact H
              have Nbq33 := Aside0.mk hbq33
              clear hbq33
              by_cases c34 : bq33 = true
              ·subst c34
               have H1 : (some 0) = some r := by rw [if_pos rfl] at H; exact H
               clear H
               have H := H1
               clear H1
               obtain rfl := Option.some.inj H
               have p641 : 0 ≤ (x56_1 : Int) := of_decide_eq_true (by first | (with_reducible assumption) | assumption)
               have q641 : x56_1 < (l2.length : Int) := of_decide_eq_true (by first | (with_reducible assumption) | assumption)
               obtain ⟨ad641, e641, hx641_0⟩ := Kd.at_bool HR2.out x56_1 p641 q641
               (try rw [← Nbq28.out] at hx641_0)
               (try rw [← Nbq33.out] at hx641_0)
               cases e641
               replace hx641_0 := (HB.out.cell (World.block_lt_of_cell? w _ hx641_0)).trans hx641_0
               replace p641 := eq_true p641
               replace q641 := eq_true q641
               have p642 : 0 ≤ ((ji30) : Int) := of_decide_eq_true (by first | (with_reducible assumption) | assumption)
               have q642 : (ji30) < (l2.length : Int) := of_decide_eq_true (by first | (with_reducible assumption) | assumption)
               obtain ⟨ad642, e642, hx642_0⟩ := Kd.at_bool HR2.out (ji30) p642 q642
               (try rw [← Nbq28.out] at hx642_0)
               (try rw [← Nbq33.out] at hx642_0)
               obtain rfl : ad641 = ad642 := (by injection e642)
               replace hx642_0 := (HB.out.cell (World.block_lt_of_cell? w _ hx642_0)).trans hx642_0
               replace p642 := eq_true p642
               replace q642 := eq_true q642
               go_wp2
               go_ret
               exact ⟨by first | rfl | (simp [errW_none, errW_some] <;> rfl) | (simp only [← hji30]; first | rfl | (simp [errW_none, errW_some] <;> rfl)) | (simp [*, errW_none, errW_some] <;> rfl), by repeat (first | (with_reducible first | exact HB.out | apply below_alloc | apply pw_below_drewN | apply below_drew1) | exact HB.out)⟩
              ·replace c34 := Bool.eq_false_iff.mpr c34
               subst c34
               have H1 : (if a0 = 5 then (spec_pzValue.l1 k1 a0 l2 (wrap64 ((l2.length : Int) - 1)) (l2.length : Int) (wrap64 (x56_1 + 1))) else (spec_pzValue.l1 k1 a0 l2 (wrap64 ((l2.length : Int) - 1)) (l2.length : Int) (wrap64 (x56_1 + 1)))) = some r := by rw [if_neg (show ¬ (false = true) by decide)] at H; exact H
               clear H
               have H := H1
               clear H1
               by_cases c35 : a0 = 5
               ·rw [if_pos c35] at H
                have c35b0 : (a0 == 5) = true := beq_iff_eq.mpr c35
                have c35b1 : (a0 != 5) = false := bne_eq_false_iff_eq.mpr c35
                clear c35
                have H' := Aside0.mk H
                clear H
                have p641 : 0 ≤ (x56_1 : Int) := of_decide_eq_true (by first | (with_reducible assumption) | assumption)
                have q641 : x56_1 < (l2.length : Int) := of_decide_eq_true (by first | (with_reducible assumption) | assumption)
                obtain ⟨ad641, e641, hx641_0⟩ := Kd.at_bool HR2.out x56_1 p641 q641
                (try rw [← Nbq28.out] at hx641_0)
                (try rw [← Nbq33.out] at hx641_0)
                cases e641
                replace hx641_0 := (HB.out.cell (World.block_lt_of_cell? w _ hx641_0)).trans hx641_0
                replace p641 := eq_true p641
                replace q641 := eq_true q641
                have p642 : 0 ≤ ((ji30) : Int) := of_decide_eq_true (by first | (with_reducible assumption) | assumption)
                have q642 : (ji30) < (l2.length : Int) := of_decide_eq_true (by first | (with_reducible assumption) | assumption)
                obtain ⟨ad642, e642, hx642_0⟩ := Kd.at_bool HR2.out (ji30) p642 q642
                (try rw [← Nbq28.out] at hx642_0)
                (try rw [← Nbq33.out] at hx642_0)
                obtain rfl : ad641 = ad642 := (by injection e642)
                replace hx642_0 := (HB.out.cell (World.block_lt_of_cell? w _ hx642_0)).trans hx642_0
                replace p642 := eq_true p642
                replace q642 := eq_true q642
                have p643 : 0 ≤ (x56_1 : Int) := of_decide_eq_true (by first | (with_reducible assumption) | assumption)
                have q643 : x56_1 < (l2.length : Int) := of_decide_eq_true (by first | (with_reducible assumption) | assumption)
                obtain ⟨ad643, e643, hx643_0⟩ := Kd.at_bool HR2.out x56_1 p643 q643
                (try rw [← Nbq28.out] at hx643_0)
                (try rw [← Nbq33.out] at hx643_0)
                obtain rfl : ad641 = ad643 := (by injection e643)
                replace hx643_0 := (HB.out.cell (World.block_lt_of_cell? w _ hx643_0)).trans hx643_0
                replace p643 := eq_true p643
                replace q643 := eq_true q643
                go_wp2
                go_roundg k1
                case measure => have := HK1.out; omega
                case rel => exact ⟨(wrap64 (x56_1 + 1)), (by first | rfl | (simp; done) | (simp [*]; done)), H', ⟨by have := HK1.out; omega⟩, ⟨by repeat (first | (with_reducible first | exact HB.out | apply below_alloc | apply pw_below_drewN | apply below_drew1) | exact HB.out)⟩⟩
               ·rw [if_neg c35] at H
                have c35b0 : (a0 == 5) = false := beq_eq_false_iff_ne.mpr c35
                have c35b1 : (a0 != 5) = true := bne_iff_ne.mpr c35
                have H' := Aside0.mk H
                clear H
                have p641 : 0 ≤ (x56_1 : Int) := of_decide_eq_true (by first | (with_reducible assumption) | assumption)
                have q641 : x56_1 < (l2.length : Int) := of_decide_eq_true (by first | (with_reducible assumption) | assumption)
                obtain ⟨ad641, e641, hx641_0⟩ := Kd.at_bool HR2.out x56_1 p641 q641
                (try rw [← Nbq28.out] at hx641_0)
                (try rw [← Nbq33.out] at hx641_0)
                cases e641
                replace hx641_0 := (HB.out.cell (World.block_lt_of_cell? w _ hx641_0)).trans hx641_0
                replace p641 := eq_true p641
                replace q641 := eq_true q641
                have p642 : 0 ≤ ((ji30) : Int) := of_decide_eq_true (by first | (with_reducible assumption) | assumption)
                have q642 : (ji30) < (l2.length : Int) := of_decide_eq_true (by first | (with_reducible assumption) | assumption)
                obtain ⟨ad642, e642, hx642_0⟩ := Kd.at_bool HR2.out (ji30) p642 q642
                (try rw [← Nbq28.out] at hx642_0)
                (try rw [← Nbq33.out] at hx642_0)
                obtain rfl : ad641 = ad642 := (by injection e642)
                replace hx642_0 := (HB.out.cell (World.block_lt_of_cell? w _ hx642_0)).trans hx642_0
                replace p642 := eq_true p642
                replace q642 := eq_true q642
                go_wp2
                go_roundg k1
                case measure => have := HK1.out; omega
                case rel => exact ⟨(wrap64 (x56_1 + 1)), (by first | rfl | (simp; done) | (simp [*]; done)), H', ⟨by have := HK1.out; omega⟩, ⟨by repeat (first | (with_reducible first | exact HB.out | apply below_alloc | apply pw_below_drewN | apply below_drew1) | exact HB.out)⟩⟩
             ·rw [if_neg c32] at H
              exact absurd H (by simp)
            ·rw [if_neg c31] at H
             exact absurd H (by simp)
           ·replace c29 := Bool.eq_false_iff.mpr c29
            subst c29
            have H1 : (if a0 = 5 then (if 0 ≤ (wrap64 ((wrap64 ((l2.length : Int) - 1)) - x56_1)) then (if (wrap64 ((wrap64 ((l2.length : Int) - 1)) - x56_1)) < (l2.length : Int) then (if (rdOf false l2 (wrap64 ((wrap64 ((l2.length : Int) - 1)) - x56_1)) = true) then (spec_pzValue.l1 k1 a0 l2 (wrap64 ((l2.length : Int) - 1)) (l2.length : Int) (wrap64 (x56_1 + 1))) else (some 0)) else (none)) else (none)) else (spec_pzValue.l1 k1 a0 l2 (wrap64 ((l2.length : Int) - 1)) (l2.length : Int) (wrap64 (x56_1 + 1)))) = some r := by rw [if_neg (show ¬ (false = true) by decide)] at H; exact H
            clear H
            have H := H1
            clear H1
            by_cases c36 : a0 = 5
            ·rw [if_pos c36] at H
             have c36b0 : (a0 == 5) = true := beq_iff_eq.mpr c36
             have c36b1 : (a0 != 5) = false := bne_eq_false_iff_eq.mpr c36
             clear c36
             obtain ⟨ji37, hji37⟩ : ∃ j_ : Int, (wrap64 ((wrap64 ((l2.length : Int) - 1)) - x56_1)) = j_ := ⟨_, rfl⟩
             replace H : (if 0 ≤ (ji37) then (if (ji37) < (l2.length : Int) then (if (rdOf false l2 (ji37) = true) then (spec_pzValue.l1 k1 a0 l2 (wrap64 ((l2.length : Int) - 1)) (l2.length : Int) (wrap64 (x56_1 + 1))) else (some 0)) else (none)) else (none)) = some r := by first | (rw [hji37] at H; exact H) | (simp only [hji37] at H ⊢; exact H)
             have hji37w : (IntKind.i64.wrap ((wrap64 ((l2.length : Int) - 1)) - x56_1)) = ji37 := (i64_w _).trans hji37
             by_cases c38 : 0 ≤ (ji37)
             ·rw [if_pos c38] at H
              have c38b0 : decide (0 ≤ (ji37)) = true := decide_eq_true c38
              clear c38
              by_cases c39 : (ji37) < (l2.length : Int)
              ·rw [if_pos c39] at H
               have c39b0 : decide ((ji37) < (l2.length : Int)) = true := decide_eq_true c39
               clear c39
               obtain ⟨bq40, hbq40⟩ : ∃ b_ : Bool, b_ = (rdOf false l2 (ji37)) := ⟨_, rfl⟩
               replace H : (if (bq40 = true) then (spec_pzValue.l1 k1 a0 l2 (wrap64 ((l2.length : Int) - 1)) (l2.length : Int) (wrap64 (x56_1 + 1))) else (some 0)) = some r := by rw [← hbq40] at H; exact H
               have Nbq40 := Aside0.mk hbq40
               clear hbq40
               by_cases c41 : (bq40 = true)
               ·subst c41
                have H1 : (spec_pzValue.l1 k1 a0 l2 (wrap64 ((l2.length : Int) - 1)) (l2.length : Int) (wrap64 (x56_1 + 1))) = some r := by rw [if_pos rfl] at H; exact H
                clear H
                have H := H1
                clear H1
                have H' := Aside0.mk H
                clear H
                have p641 : 0 ≤ (x56_1 : Int) := of_decide_eq_true (by first | (with_reducible assumption) | assumption)
                have q641 : x56_1 < (l2.length : Int) := of_decide_eq_true (by first | (with_reducible assumption) | assumption)
                obtain ⟨ad641, e641, hx641_0⟩ := Kd.at_bool HR2.out x56_1 p641 q641
                (try rw [← Nbq28.out] at hx641_0)
                (try rw [← Nbq40.out] at hx641_0)
                cases e641
                replace hx641_0 := (HB.out.cell (World.block_lt_of_cell? w _ hx641_0)).trans hx641_0
                replace p641 := eq_true p641
                replace q641 := eq_true q641
                have p644 : 0 ≤ (x56_1 : Int) := of_decide_eq_true (by first | (with_reducible assumption) | assumption)
                have q644 : x56_1 < (l2.length : Int) := of_decide_eq_true (by first | (with_reducible assumption) | assumption)
                obtain ⟨ad644, e644, hx644_0⟩ := Kd.at_bool HR2.out x56_1 p644 q644
                (try rw [← Nbq28.out] at hx644_0)
                (try rw [← Nbq40.out] at hx644_0)
                obtain rfl : ad641 = ad644 := (by injection e644)
                replace hx644_0 := (HB.out.cell (World.block_lt_of_cell? w _ hx644_0)).trans hx644_0
                replace p644 := eq_true p644
                replace q644 := eq_true q644
                have p645 : 0 ≤ ((ji37) : Int) := of_decide_eq_true (by first | (with_reducible assumption) | assumption)
                have q645 : (ji37) < (l2.length : Int) := of_decide_eq_true (by first | (with_reducible assumption) | assumption)
                obtain ⟨ad645, e645, hx645_0⟩ := Kd.at_bool HR2.out (ji37) p645 q645
                (try rw [← Nbq28.out] at hx645_0)
                (try rw [← Nbq40.out] at hx645_0)
                obtain rfl : ad641 = ad645 := (by injection e645)
                replace hx645_0 := (HB.out.cell (World.block_lt_of_cell? w _ hx645_0)).trans hx645_0
                replace p645 := eq_true p645
                replace q645 := eq_true q645
                go_wp2
                go_roundg k1
                case measure => have := HK1.out; omega
                case rel => exact ⟨(wrap64 (x56_1 + 1)), (by first | rfl | (simp; done) | (simp [*]; done)), H', ⟨by have := HK1.out; omega⟩, ⟨by repeat (first | (with_reducible first | exact HB.out | apply below_alloc | apply pw_below_drewN | apply below_drew1) | exact HB.out)⟩⟩
               ·replace c41 := Bool.eq_false_iff.mpr c41
                subst c41
                have H1 : (some 0) = some r := by rw [if_neg (show ¬ (false = true) by decide)] at H; exact H
                clear H
                have H := H1
                clear H1
                obtain rfl := Option.some.inj H
                have p641 : 0 ≤ (x56_1 : Int) := of_decide_eq_true (by first | (with_reducible assumption) | assumption)
                have q641 : x56_1 < (l2.length : Int) := of_decide_eq_true (by first | (with_reducible assumption) | assumption)
                obtain ⟨ad641, e641, hx641_0⟩ := Kd.at_bool HR2.out x56_1 p641 q641
                (try rw [← Nbq28.out] at hx641_0)
                (try rw [← Nbq40.out] at hx641_0)
                cases e641
                replace hx641_0 := (HB.out.cell (World.block_lt_of_cell? w _ hx641_0)).trans hx641_0
                replace p641 := eq_true p641
                replace q641 := eq_true q641
                have p644 : 0 ≤ (x56_1 : Int) := of_decide_eq_true (by first | (with_reducible assumption) | assumption)
                have q644 : x56_1 < (l2.length : Int) := of_decide_eq_true (by first | (with_reducible assumption) | assumption)
                obtain ⟨ad644, e644, hx644_0⟩ := Kd.at_bool HR2.out x56_1 p644 q644
                (try rw [← Nbq28.out] at hx644_0)
                (try rw [← Nbq40.out] at hx644_0)
                obtain rfl : ad641 = ad644 := (by injection e644)
                replace hx644_0 := (HB.out.cell (World.block_lt_of_cell? w _ hx644_0)).trans hx644_0
                replace p644 := eq_true p644
                replace q644 := eq_true q644
                have p645 : 0 ≤ ((ji37) : Int) := of_decide_eq_true (by first | (with_reducible assumption) | assumption)
                have q645 : (ji37) < (l2.length : Int) := of_decide_eq_true (by first | (with_reducible assumption) | assumption)
                obtain ⟨ad645, e645, hx645_0⟩ := Kd.at_bool HR2.out (ji37) p645 q645
                (try rw [← Nbq28.out] at hx645_0)
                (try rw [← Nbq40.out] at hx645_0)
                obtain rfl : ad641 = ad645 := (by injection e645)
                replace hx645_0 := (HB.out.cell (World.block_lt_of_cell? w _ hx645_0)).trans hx645_0
                replace p645 := eq_true p645
                replace q645 := eq_true q645
                go_wp2
                go_ret
                exact ⟨by first | rfl | (simp [errW_none, errW_some] <;> rfl) | (simp only [← hji37]; first | rfl | (simp [errW_none, errW_some] <;> rfl)) | (simp [*, errW_none, errW_some] <;> rfl), by repeat (first | (with_reducible first | exact HB.out | apply below_alloc | apply pw_below_drewN | apply below_drew1) | exact HB.out)⟩
              ·rw [if_neg c39] at H
               exact absurd H (by simp)
             ·rw [if_neg c38] at H
              exact absurd H (by simp)
            ·rw [if_neg c36] at H
             have c36b0 : (a0 == 5) = false := beq_eq_false_iff_ne.mpr c36
             have c36b1 : (a0 != 5) = true := bne_iff_ne.mpr c36
             have H' := Aside0.mk H
             clear H
             have p641 : 0 ≤ (x56_1 : Int) := of_decide_eq_true (by first | (with_reducible assumption) | assumption)
             have q641 : x56_1 < (l2.length : Int) := of_decide_eq_true (by first | (with_reducible assumption) | assumption)
             obtain ⟨ad641, e641, hx641_0⟩ := Kd.at_bool HR2.out x56_1 p641 q641
             (try rw [← Nbq28.out] at hx641_0)
             cases e641
             replace hx641_0 := (HB.out.cell (World.block_lt_of_cell? w _ hx641_0)).trans hx641_0
             replace p641 := eq_true p641
             replace q641 := eq_true q641
             go_wp2
             go_roundg k1
             case measure => have := HK1.out; omega
             case rel => exact ⟨(wrap64 (x56_1 + 1)), (by first | rfl | (simp; done) | (simp [*]; done)), H', ⟨by have := HK1.out; omega⟩, ⟨by repeat (first | (with_reducible first | exact HB.out | apply below_alloc | apply pw_below_drewN | apply below_drew1) | exact HB.out)⟩⟩
          ·rw [if_neg c27] at H
           exact absurd H (by simp)
         ·rw [if_neg c26] at H
          exact absurd H (by simp)
        ·rw [if_neg c25] at H
         have c25b0 : (a0 == 4) = false := beq_eq_false_iff_ne.mpr c25
         have c25b1 : (a0 != 4) = true := bne_iff_ne.mpr c25
         by_cases c42 : a0 = 5
         ·rw [if_pos c42] at H
          have c42b0 : (a0 == 5) = true := beq_iff_eq.mpr c42
          have c42b1 : (a0 != 5) = false := bne_eq_false_iff_eq.mpr c42
          clear c42
          by_cases c43 : 0 ≤ x56_1
          ·rw [if_pos c43] at H
           have c43b0 : decide (0 ≤ x56_1) = true := decide_eq_true c43
           clear c43
           by_cases c44 : x56_1 < (l2.length : Int)
           ·rw [if_pos c44] at H
            have c44b0 : decide (x56_1 < (l2.length : Int)) = true := decide_eq_true c44
            clear c44
            obtain ⟨bq45, hbq45⟩ : ∃ b_ : Bool, b_ = (rdOf false l2 x56_1) := ⟨_, rfl⟩
            replace H : (if bq45 = true then (spec_pzValue.l1 k1 a0 l2 (wrap64 ((l2.length : Int) - 1)) (l2.length : Int) (wrap64 (x56_1 + 1))) else (if 0 ≤ (wrap64 ((wrap64 ((l2.length : Int) - 1)) - x56_1)) then (if (wrap64 ((wrap64 ((l2.length : Int) - 1)) - x56_1)) < (l2.length : Int) then (if (rdOf false l2 (wrap64 ((wrap64 ((l2.length : Int) - 1)) - x56_1)) = true) then (spec_pzValue.l1 k1 a0 l2 (wrap64 ((l2.length : Int) - 1)) (l2.length : Int) (wrap64 (x56_1 + 1))) else (some 0)) else (none)) else (none))) = some r := by rw [← hbq45] at H; exact H
            have Nbq45 := Aside0.mk hbq45
            clear hbq45
            by_cases c46 : bq45 = true
            ·subst c46
             have H1 : (spec_pzValue.l1 k1 a0 l2 (wrap64 ((l2.length : Int) - 1)) (l2.length : Int) (wrap64 (x56_1 + 1))) = some r := by rw [if_pos rfl] at H; exact H
             clear H
             have H := H1
             clear H1
             have H' := Aside0.mk H
             clear H
             have p646 : 0 ≤ (x56_1 : Int) := of_decide_eq_true (by first | (with_reducible assumption) | assumption)
             have q646 : x56_1 < (l2.length : Int) := of_decide_eq_true (by first | (with_reducible assumption) | assumption)
             obtain ⟨ad646, e646, hx646_0⟩ := Kd.at_bool HR2.out x56_1 p646 q646
             (try rw [← Nbq45.out] at hx646_0)
             cases e646
             replace hx646_0 := (HB.out.cell (World.block_lt_of_cell? w _ hx646_0)).trans hx646_0
             replace p646 := eq_true p646
             replace q646 := eq_true q646
             go_wp2
             go_roundg k1
             case measure => have := HK1.out; omega
             case rel => exact ⟨(wrap64 (x56_1 + 1)), (by first | rfl | (simp; done) | (simp [*]; done)), H', ⟨by have := HK1.out; omega⟩, ⟨by repeat (first | (with_reducible first | exact HB.out | apply below_alloc | apply pw_below_drewN | apply below_drew1) | exact HB.out)⟩⟩
            ·replace c46 := Bool.eq_false_iff.mpr c46
             subst c46
             have H1 : (if 0 ≤ (wrap64 ((wrap64 ((l2.length : Int) - 1)) - x56_1)) then (if (wrap64 ((wrap64 ((l2.length : Int) - 1)) - x56_1)) < (l2.length : Int) then (if (rdOf false l2 (wrap64 ((wrap64 ((l2.length : Int) - 1)) - x56_1)) = true) then (spec_pzValue.l1 k1 a0 l2 (wrap64 ((l2.length : Int) - 1)) (l2.length : Int) (wrap64 (x56_1 + 1))) else (some 0)) else (none)) else (none)) = some r := by rw [if_neg (show ¬ (false = true) by decide)] at H; exact H
             clear H
             have H := H1
             clear H1
             obtain ⟨ji47, hji47⟩ : ∃ j_ : Int, (wrap64 ((wrap64 ((l2.length : Int) - 1)) - x56_1)) = j_ := ⟨_, rfl⟩
             replace H : (if 0 ≤ (ji47) then (if (ji47) < (l2.length : Int) then (if (rdOf false l2 (ji47) = true) then (spec_pzValue.l1 k1 a0 l2 (wrap64 ((l2.length : Int) - 1)) (l2.length : Int) (wrap64 (x56_1 + 1))) else (some 0)) else (none)) else (none)) = some r := by first | (rw [hji47] at H; exact H) | (simp only [hji47] at H ⊢; exact H)
             have hji47w : (IntKind.i64.wrap ((wrap64 ((l2.length : Int) - 1)) - x56_1)) = ji47 := (i64_w _).trans hji47
             by_cases c48 : 0 ≤ (ji47)
             ·rw [if_pos c48] at H
              have c48b0 : decide (0 ≤ (ji47)) = true := decide_eq_true c48
              clear c48
              by_cases c49 : (ji47) < (l2.length : Int)
              ·rw [if_pos c49] at H
               have c49b0 : decide ((ji47) < (l2.length : Int)) = true := decide_eq_true c49
               clear c49
               obtain ⟨bq50, hbq50⟩ : ∃ b_ : Bool, b_ = (rdOf false l2 (ji47)) := ⟨_, rfl⟩
               replace H : (if (bq50 = true) then (spec_pzValue.l1 k1 a0 l2 (wrap64 ((l2.length : Int) - 1)) (l2.length : Int) (wrap64 (x56_1 + 1))) else (some 0)) = some r := by rw [← hbq50] at H; exact H
               have Nbq50 := Aside0.mk hbq50
               clear hbq50
               by_cases c51 : (bq50 = true)
               ·subst c51
                have H1 : (spec_pzValue.l1 k1 a0 l2 (wrap64 ((l2.length : Int) - 1)) (l2.length : Int) (wrap64 (x56_1 + 1))) = some r := by rw [if_pos rfl] at H; exact H
                clear H
                have H := H1
                clear H1
                have H' := Aside0.mk H
                clear H
                have p646 : 0 ≤ (x56_1 : Int) := of_decide_eq_true (by first | (with_reducible assumption) | assumption)
                have q646 : x56_1 < (l2.length : Int) := of_decide_eq_true (by first | (with_reducible assumption) | assumption)
                obtain ⟨ad646, e646, hx646_0⟩ := Kd.at_bool HR2.out x56_1 p646 q646
                (try rw [← Nbq45.out] at hx646_0)
                (try rw [← Nbq50.out] at hx646_0)
                cases e646
                replace hx646_0 := (HB.out.cell (World.block_lt_of_cell? w _ hx646_0)).trans hx646_0
                replace p646 := eq_true p646
                replace q646 := eq_true q646
                have p647 : 0 ≤ ((ji47) : Int) := of_decide_eq_true (by first | (with_reducible assumption) | assumption)
                have q647 : (ji47) < (l2.length : Int) := of_decide_eq_true (by first | (with_reducible assumption) | assumption)
                obtain ⟨ad647, e647, hx647_0⟩ := Kd.at_bool HR2.out (ji47) p647 q647
                (try rw [← Nbq45.out] at hx647_0)
                (try rw [← Nbq50.out] at hx647_0)
                obtain rfl : ad646 = ad647 := (by injection e647)
                replace hx647_0 := (HB.out.cell (World.block_lt_of_cell? w _ hx647_0)).trans hx647_0
                replace p647 := eq_true p647
                replace q647 := eq_true q647
                go_wp2
                go_roundg k1
                case measure => have := HK1.out; omega
                case rel => exact ⟨(wrap64 (x56_1 + 1)), (by first | rfl | (simp; done) | (simp [*]; done)), H', ⟨by have := HK1.out; omega⟩, ⟨by repeat (first | (with_reducible first | exact HB.out | apply below_alloc | apply pw_below_drewN | apply below_drew1) | exact HB.out)⟩⟩
               ·replace c51 := Bool.eq_false_iff.mpr c51
                subst c51
                have H1 : (some 0) = some r := by rw [if_neg (show ¬ (false = true) by decide)] at H; exact H
                clear H
                have H := H1
                clear H1
                obtain rfl := Option.some.inj H
                have p646 : 0 ≤ (x56_1 : Int) := of_decide_eq_true (by first | (with_reducible assumption) | assumption)
                have q646 : x56_1 < (l2.length : Int) := of_decide_eq_true (by first | (with_reducible assumption) | assumption)
                obtain ⟨ad646, e646, hx646_0⟩ := Kd.at_bool HR2.out x56_1 p646 q646
                (try rw [← Nbq45.out] at hx646_0)
                (try rw [← Nbq50.out] at hx646_0)
                cases e646
                replace hx646_0 := (HB.out.cell (World.block_lt_of_cell? w _ hx646_0)).trans hx646_0
                replace p646 := eq_true p646
                replace q646 := eq_true q646
                have p647 : 0 ≤ ((ji47) : Int) := of_decide_eq_true (by first | (with_reducible assumption) | assumption)
                have q647 : (ji47) < (l2.length : Int) := of_decide_eq_true (by first | (with_reducible assumption) | assumption)
                obtain ⟨ad647, e647, hx647_0⟩ := Kd.at_bool HR2.out (ji47) p647 q647
                (try rw [← Nbq45.out] at hx647_0)
                (try rw [← Nbq50.out] at hx647_0)
                obtain rfl : ad646 = ad647 := (by injection e647)
                replace hx647_0 := (HB.out.cell (World.block_lt_of_cell? w _ hx647_0)).trans hx647_0
                replace p647 := eq_true p647
                replace q647 := eq_true q647
                go_wp2
                go_ret
                exact ⟨by first | rfl | (simp [errW_none, errW_some] <;> rfl) | (simp only [← hji47]; first | rfl | (simp [errW_none, errW_some] <;> rfl)) | (simp [*, errW_none, errW_some] <;> rfl), by repeat (first | (with_reducible first | exact HB.out | apply below_alloc | apply pw_below_drewN | apply below_drew1) | exact HB.out)⟩
              ·rw [if_neg c49] at H
               exact absurd H (by simp)
             ·rw [if_neg c48] at H
              exact absurd H (by simp)
           ·rw [if_neg c44] at H
            exact absurd H (by simp)
          ·rw [if_neg c43] at H
           exact absurd H (by simp)
         ·rw [if_neg c42] at H
          have c42b0 : (a0 == 5) = false := beq_eq_false_iff_ne.mpr c42
          have c42b1 : (a0 != 5) = true := bne_iff_ne.mpr c42
          have H' := Aside0.mk H
          clear H
          go_wp2
          go_roundg k1
          case measure => have := HK1.out; omega
          case rel => exact ⟨(wrap64 (x56_1 + 1)), (by first | rfl | (simp; done) | (simp [*]; done)), H', ⟨by have := HK1.out; omega⟩, ⟨by repeat (first | (with_reducible first | exact HB.out | apply below_alloc | apply pw_below_drewN | apply below_drew1) | exact HB.out)⟩⟩
       ·rw [if_neg c24] at H
        have c24b0 : decide (x56_1 < (l2.length : Int)) = false := decide_eq_false c24
        clear c24
        obtain rfl := Option.some.inj H
        go_wp2
        go_ret
        exact ⟨by first | rfl | (simp [errW_none, errW_some] <;> rfl) | (simp [*, errW_none, errW_some] <;> rfl), by repeat (first | (with_reducible first | exact HB.out | apply below_alloc | apply pw_below_drewN | apply below_drew1) | exact HB.out)⟩
end Go.Proofs.YtnncjnjfdhbddaaGreat.Z
namespace Go.Proofs.YtnncjnjfdhbddaaGreat.Z
open Go.RowKit Go.Proofs.YtnncjnjfdhbddaaGreatW.PrintWords Go.Proofs.YtnncjnjfdhbddaaGreatW.PrintLast Go.Proofs.YtnncjnjfdhbddaaGreatW.PrintMore
attribute [local go_sem] max2_int min2_int max_two min_two max_three min_three max_four min_four
set_option linter.unusedVariables false
set_option linter.unusedSimpArgs false
def spec_pzFits.j0 : Nat → List Bool → Bool → Int → Int → Int → Option (Bool)
 | 0, _, _, _, _, _ => none
 | k + 1, x1, x12, x649000, x649001, x649002 => if x12 = true then ((spec_pzValue.f k x649000 0 x1).bind fun t649 => (some (t649 == x649001))) else ((spec_pzValue.f k x649000 x649001 x1).bind fun t650 => (some (t650 == x649002)))
def spec_pzFits.f (k : Nat) (a0_0 : Int) (a0_1 : Int) (a0_2 : Int) (l1 : List Bool) : Option (Bool) := if a0_0 = 1 then (spec_pzFits.j0 k l1 true a0_0 a0_1 a0_2) else (spec_pzFits.j0 k l1 (decide (a0_0 > 3)) a0_0 a0_1 a0_2)
def spec_pzFits.T2 : Bool × List (List Nat × List Nat) := (true, [([], []), ([0], [0]), ([], []), ([1, 2], [1, 2]), ([], []), ([4], [4]), ([3, 5], [3, 5]), ([6, 3, 0, 1, 2, 3, 4, 5, 6], [6])])
def spec_pzFits.B2 : List Nat := [0, 1, 0, 7, 0, 16, 63, 127]
theorem spec_pzFits.tab2 : rtab .any (opsOf Tryz.f127 2) = spec_pzFits.T2 := by kernel_rfl
theorem spec_pzFits.bits2 : waitsOk spec_pzFits.T2.2 spec_pzFits.B2 = true := by kernel_rfl
def spec_pzFits.T3 : Bool × List (List Nat × List Nat) := (true, [([], []), ([0], [0]), ([], []), ([2], [2]), ([], []), ([1, 3, 4], [1, 3, 4]), ([], []), ([6], [6]), ([5, 7], [5, 7]), ([8, 5, 0, 1, 2, 3, 4, 5, 6, 7, 8], [8])])
def spec_pzFits.B3 : List Nat := [0, 1, 0, 4, 0, 31, 0, 64, 255, 511]
theorem spec_pzFits.tab3 : rtab .any (opsOf Tryz.f127 3) = spec_pzFits.T3 := by kernel_rfl
theorem spec_pzFits.bits3 : waitsOk spec_pzFits.T3.2 spec_pzFits.B3 = true := by kernel_rfl
set_option maxHeartbeats 8000000 in
set_option maxRecDepth 100000 in
theorem spec_pzFits.calls (k : Nat) (a0_0 : Int) (a0_1 : Int) (a0_2 : Int) (A1 : Option Addr) (c1 : Nat) (l1 : List Bool) (r : Bool) (w : World) (hr1 : Kd.C Kd.bool w A1 l1.length l1) (hc1 : l1.length ≤ c1) (h : spec_pzFits.f k a0_0 a0_1 a0_2 l1 = some r) :
  Calls Tryz.prog 127 #[.agg #[.int .i64 a0_0, .int .i64 a0_1, .int .i64 a0_2], .slice A1 l1.length c1] w fun e w' => e = .returned (.bool r) ∧ Below w.heap.size w w' := by
 have hu86 := Tryz.underlying86
 have HR1 := Aside0.mk hr1
 have HC1 := Aside0.mk hc1
 clear hr1 hc1
 have HB := Aside0.mk (Below.refl w.heap.size w)
 have H : (if a0_0 = 1 then (spec_pzFits.j0 k l1 true a0_0 a0_1 a0_2) else (spec_pzFits.j0 k l1 (decide (a0_0 > 3)) a0_0 a0_1 a0_2)) = some r := h
 clear h
 have HC3 := Aside0.mk H
 clear H
 go_enter Tryz.func127, Tryz.ntmps127
 go_upto_region 1 with (first | ((with_reducible refine gate_dst (N := 2) rfl ?_); refine box_event ?hg (N := 2) ?hd (cs := #[.int .i64 a0_0, .int .i64 a0_1, .int .i64 a0_2]) (t := 86) ?hr ?_; (case hd => rfl); (case hg => rfl); (case hr => first | (go_simp; done) | (go_simp; rfl)); intro gb648 hg w4 hbox hb; have n0_ := Aside0.mk (below_step (by repeat (first | (with_reducible first | exact HB.out | apply below_alloc | apply pw_below_drewN | apply below_drew1) | exact HB.out)) hb); have n1_ := Aside0.mk (hbox); have n2_ := Aside0.mk ((by rw [hg]; exact (below_size (by repeat (first | (with_reducible first | exact HB.out | apply below_alloc | apply pw_below_drewN | apply below_drew1) | exact HB.out))) : w.heap.size ≤ gb648)); have n3_ := Aside0.mk ((by rw [hg]; exact (below_size (by repeat (first | (with_reducible first | exact HB.out | apply below_alloc | apply pw_below_drewN | apply below_drew1) | exact HB.out))) : w.heap.size ≤ gb648)); clear HB; have HB := n0_; have BK648 := n1_; have GW648 := n2_; have GE648 := n3_; clear n0_ n1_ n2_ n3_; clear hb hbox hg))
 (try simp only [Act.put, List.setIfInBounds_toArray, List.set_cons_zero, List.set_cons_succ])
 go_cut [12] (fun v12 wc => ∃ (kq : Nat) (x12_2 : Bool), v12 = .bool x12_2 ∧ Aside0 (spec_pzFits.j0 kq l1 x12_2 a0_0 a0_1 a0_2 = some r) ∧ Aside0 (kq ≤ k) ∧ Aside0 (wc.heap[gb648]? = some (.cells #[.int .i64 a0_0, .int .i64 a0_1, .int .i64 a0_2] 86 (0, 0))) ∧ Aside0 (Below w.heap.size w wc))
 case first =>
  have H := HC3.out
  clear HC3
  by_cases c5 : a0_0 = 1
  ·rw [if_pos c5] at H
   have c5b0 : (a0_0 == 1) = true := beq_iff_eq.mpr c5
   have c5b1 : (a0_0 != 1) = false := bne_eq_false_iff_eq.mpr c5
   clear c5
   (first | rw [c5b0] | (simp only [i64_w, i32_w]; rw [c5b0]) | skip)
   have H' := Aside0.mk H
   clear H
   have hcz6_0 : w4.cell? ⟨gb648, 0, none⟩ = some (.int .i64 a0_0) := (blk_cell BK648.out 0).trans rfl
   have hcz6_1 : w4.cell? ⟨gb648, 1, none⟩ = some (.int .i64 a0_1) := (blk_cell BK648.out 1).trans rfl
   have hcz6_2 : w4.cell? ⟨gb648, 2, none⟩ = some (.int .i64 a0_2) := (blk_cell BK648.out 2).trans rfl
   have hfz6_0 := blk_frozen BK648.out 0
   have hfz6_1 := blk_frozen BK648.out 1
   have hfz6_2 := blk_frozen BK648.out 2
   go_wp2
   go_meet
   case rel => exact ⟨_, (true), (by first | rfl | (simp; done) | (simp [*]; done)), H', ⟨by first | omega | exact Nat.le_refl _⟩, ⟨by (with_reducible repeat (first | refine blk_drewN ?_ _ | refine blk_drew ?_ | refine blk_alloc ?_ _)); exact BK648.out⟩, ⟨by repeat (first | (with_reducible first | exact HB.out | apply below_alloc | apply pw_below_drewN | apply below_drew1 | refine below_set ?_ GE648.out) | exact HB.out)⟩⟩
  ·rw [if_neg c5] at H
   have c5b0 : (a0_0 == 1) = false := beq_eq_false_iff_ne.mpr c5
   have c5b1 : (a0_0 != 1) = true := bne_iff_ne.mpr c5
   (first | rw [c5b0] | (simp only [i64_w, i32_w]; rw [c5b0]) | skip)
   have H' := Aside0.mk H
   clear H
   have hcz7_0 : w4.cell? ⟨gb648, 0, none⟩ = some (.int .i64 a0_0) := (blk_cell BK648.out 0).trans rfl
   have hcz7_1 : w4.cell? ⟨gb648, 1, none⟩ = some (.int .i64 a0_1) := (blk_cell BK648.out 1).trans rfl
   have hcz7_2 : w4.cell? ⟨gb648, 2, none⟩ = some (.int .i64 a0_2) := (blk_cell BK648.out 2).trans rfl
   have hfz7_0 := blk_frozen BK648.out 0
   have hfz7_1 := blk_frozen BK648.out 1
   have hfz7_2 := blk_frozen BK648.out 2
   go_wp2
   go_meet
   case rel => exact ⟨_, (decide (a0_0 > 3)), (by first | rfl | (simp; done) | (simp [*]; done)), H', ⟨by first | omega | exact Nat.le_refl _⟩, ⟨by (with_reducible repeat (first | refine blk_drewN ?_ _ | refine blk_drew ?_ | refine blk_alloc ?_ _)); exact BK648.out⟩, ⟨by repeat (first | (with_reducible first | exact HB.out | apply below_alloc | apply pw_below_drewN | apply below_drew1 | refine below_set ?_ GE648.out) | exact HB.out)⟩⟩
 case rest =>
  clear HC3
  try clear c1
  try clear p2
  try clear c5
  try clear c5b0
  try clear c5b1
  try clear hcz6_0
  try clear hcz6_1
  try clear hcz6_2
  try clear hcz7_0
  try clear hcz7_1
  try clear hcz7_2
  try clear hfz6_0
  try clear hfz6_1
  try clear hfz6_2
  try clear hfz7_0
  try clear hfz7_1
  try clear hfz7_2
  obtain ⟨kq, x12_2, rfl, HA, HJ2, BK648, HB⟩ := hcut
  cases kq with
  | zero => exact absurd HA.out (by simp [spec_pzFits.j0])
  | succ kj2 =>
   have H := HA.out
   clear HA
   simp only [spec_pzFits.j0] at H
   by_cases c8 : x12_2 = true
   ·subst c8
    have H1 : ((spec_pzValue.f kj2 a0_0 0 l1).bind fun t649 => (some (t649 == a0_1))) = some r := by rw [if_pos rfl] at H; exact H
    clear H
    have H := H1
    clear H1
    replace H := Option.bind_eq_some_iff.mp H
    obtain ⟨t649, A90, H⟩ := H
    replace H : (some (t649 == a0_1)) = some r := H
    have A9 := Aside0.mk A90
    clear A90
    obtain rfl := Option.some.inj H
    try go_wp2
    have n0_ := Aside0.mk (blk_drew BK648.out)
    have n1_ := Aside0.mk (below_drew1 HB.out)
    clear BK648
    clear HB
    have BK648 := n0_
    have HB := n1_
    clear n0_ n1_
    refine start_ (n := 8) (S := fun w' => w'.cell? ⟨gb648, 0, none⟩ = some (.int .i64 a0_0) ∧ w'.cell? ⟨gb648, 1, none⟩ = some (.int .i64 a0_1) ∧ w'.cell? ⟨gb648, 2, none⟩ = some (.int .i64 a0_2)) (ds := []) #[false, false, false, false, false, false, false, false] (by kernel_rfl) rfl rfl ⟨(blk_cell BK648.out 0).trans rfl, (blk_cell BK648.out 1).trans rfl, (blk_cell BK648.out 2).trans rfl⟩ (fun hHeld => ?_); refine with_tabW spec_pzFits.tab2 spec_pzFits.bits2 (fun HT_ HW_ => ?_)
    generalize wc.drew = w10 at BK648 HB hHeld ⊢
    refine pure_ (i := 0) (N := some 13) (v := ?_) (a' := ?_) #[true, false, false, false, false, false, false, false] rfl rfl (any_of HT_.out (by kernel_rfl)) (fun _ _ _ h => h) (Or.inl ⟨by rfl, ?_⟩) ?_ ?_
    rotate_left
    ·intro w'
     go_simp
     with_reducible rfl
    rotate_left
    ·simp only [Act.put, List.setIfInBounds_toArray, List.set_cons_zero, List.set_cons_succ, i64_w, i32_w]
     rfl
    refine pure_ (i := 2) (N := some 15) (v := ?_) (a' := ?_) #[true, false, true, false, false, false, false, false] rfl rfl (any_of HT_.out (by kernel_rfl)) (fun _ _ _ h => h) (Or.inl ⟨by rfl, ?_⟩) ?_ ?_
    rotate_left
    ·intro w'
     go_simp
     with_reducible rfl
    rotate_left
    ·simp only [Act.put, List.setIfInBounds_toArray, List.set_cons_zero, List.set_cons_succ, i64_w, i32_w]
     rfl
    refine pure_ (i := 4) (N := some 17) (v := ?_) (a' := ?_) #[true, false, true, false, true, false, false, false] rfl rfl (any_of HT_.out (by kernel_rfl)) (fun _ _ _ h => h) (Or.inl ⟨by rfl, ?_⟩) ?_ ?_
    rotate_left
    ·intro w'
     go_simp
     with_reducible rfl
    rotate_left
    ·simp only [Act.put, List.setIfInBounds_toArray, List.set_cons_zero, List.set_cons_succ, i64_w, i32_w]
     rfl
    refine take_ (i := 1) (N := some 14) (v := ?_) (a' := ?_) #[true, true, true, false, true, false, false, false] rfl rfl (take_ofW HT_.out HW_.out (by kernel_rfl)) (fun _ _ _ h => h) (Or.inl ⟨by rfl, ?_⟩) hHeld ?_ ?_
    rotate_left
    ·rintro w' ⟨s0, s1, s2⟩
     go_simp
     with_reducible rfl
    rotate_left
    ·simp only [Act.put, List.setIfInBounds_toArray, List.set_cons_zero, List.set_cons_succ, i64_w, i32_w]
     rfl
    refine take_ (i := 5) (N := some 18) (v := ?_) (a' := ?_) #[true, true, true, false, true, true, false, false] rfl rfl (take_ofW HT_.out HW_.out (by kernel_rfl)) (fun _ _ _ h => h) (Or.inl ⟨by rfl, ?_⟩) hHeld ?_ ?_
    rotate_left
    ·rintro w' ⟨s0, s1, s2⟩
     go_simp
     with_reducible rfl
    rotate_left
    ·simp only [Act.put, List.setIfInBounds_toArray, List.set_cons_zero, List.set_cons_succ, i64_w, i32_w]
     rfl
    refine one_ (i := 3) (N := some 16) #[true, true, true, true, true, true, false, false] rfl rfl (one_of HT_.out (by kernel_rfl)) (by decide) (fun K hK => ?_)
    refine goes_ Tryz.func153 (by kernel_rfl) rfl #[.int .i64 a0_0, .int .i64 0, .slice A1 l1.length c1] (by rfl) rfl rfl (by (try simp only [List.map_toArray, List.map_cons, List.map_nil]); first | done | rfl | (simp only [List.length_drop, List.length_take]; rfl)) ?_
    with_reducible refine (spec_pzValue.calls kj2 a0_0 0 _ _ l1 t649 _ ?side1 ?side2 A9.out).mono ?_
    (case side1 => repeat (first | exact (Kd.C_below HR1.out HB.out) | (with_reducible refine Kd.C_alloc ?_ _) | (with_reducible refine Kd.C_drewN ?_ _) | (with_reducible refine Kd.C_drew ?_)))
    (case side2 => exact HC1.out)
    rintro e w11 ⟨rfl, hb⟩
    refine ⟨_, rfl, ?_⟩
    have n0_ := Aside0.mk (blk_below (g := gb648) (o := .cells #[.int .i64 a0_0, .int .i64 a0_1, .int .i64 a0_2] 86 (0, 0)) (by (with_reducible repeat (first | refine blk_drewN ?_ _ | refine blk_drew ?_ | refine blk_alloc ?_ _)); exact BK648.out) hb)
    have n1_ := Aside0.mk (below_step (by repeat (first | (with_reducible first | exact HB.out | apply below_alloc | apply pw_below_drewN | apply below_drew1 | refine below_set ?_ GE648.out) | exact HB.out)) hb)
    clear BK648
    clear HB
    have BK648 := n0_
    have HB := n1_
    clear n0_ n1_
    (try clear hb)
    (try clear hb2)
    (try clear hk)
    (try clear hi)
    refine hK.out _ _ ⟨(blk_cell BK648.out 0).trans rfl, (blk_cell BK648.out 1).trans rfl, (blk_cell BK648.out 2).trans rfl⟩ (fun hHeld => ?_)
    clear hK K
    refine norm_ (a' := ?_) ?_ ?_
    rotate_left
    ·show Act.put _ (some 16) _ = _
     simp only [Act.put, List.setIfInBounds_toArray, List.set_cons_zero, List.set_cons_succ, i64_w, i32_w]
     rfl
    refine pure_ (i := 6) (N := some 19) (v := ?_) (a' := ?_) #[true, true, true, true, true, true, true, false] rfl rfl (any_of HT_.out (by kernel_rfl)) (fun _ _ _ h => h) (Or.inl ⟨by rfl, ?_⟩) ?_ ?_
    rotate_left
    ·intro w'
     go_simp
     with_reducible rfl
    rotate_left
    ·simp only [Act.put, List.setIfInBounds_toArray, List.set_cons_zero, List.set_cons_succ, i64_w, i32_w]
     rfl
    refine pure_ (i := 7) (N := some 4) (v := ?_) (a' := ?_) #[true, true, true, true, true, true, true, true] rfl rfl (any_of HT_.out (by kernel_rfl)) (fun _ _ _ h => h) (Or.inl ⟨by rfl, ?_⟩) ?_ ?_
    rotate_left
    ·intro w'
     go_simp
     with_reducible rfl
    rotate_left
    ·simp only [Act.put, List.setIfInBounds_toArray, List.set_cons_zero, List.set_cons_succ, i64_w, i32_w]
     rfl
    refine done_ (done_of HT_.out (by kernel_rfl)) ?_
    try go_wp2
    go_ret
    exact ⟨by first | rfl | (simp [errW_none, errW_some] <;> rfl) | (simp [*, errW_none, errW_some] <;> rfl), by repeat (first | (with_reducible first | exact HB.out | apply below_alloc | apply pw_below_drewN | apply below_drew1 | refine below_set ?_ GE648.out) | exact HB.out)⟩
   ·replace c8 := Bool.eq_false_iff.mpr c8
    subst c8
    have H1 : ((spec_pzValue.f kj2 a0_0 a0_1 l1).bind fun t650 => (some (t650 == a0_2))) = some r := by rw [if_neg (show ¬ (false = true) by decide)] at H; exact H
    clear H
    have H := H1
    clear H1
    replace H := Option.bind_eq_some_iff.mp H
    obtain ⟨t650, A120, H⟩ := H
    replace H : (some (t650 == a0_2)) = some r := H
    have A12 := Aside0.mk A120
    clear A120
    obtain rfl := Option.some.inj H
    try go_wp2
    have n0_ := Aside0.mk (blk_drew BK648.out)
    have n1_ := Aside0.mk (below_drew1 HB.out)
    clear BK648
    clear HB
    have BK648 := n0_
    have HB := n1_
    clear n0_ n1_
    refine start_ (n := 10) (S := fun w' => w'.cell? ⟨gb648, 0, none⟩ = some (.int .i64 a0_0) ∧ w'.cell? ⟨gb648, 1, none⟩ = some (.int .i64 a0_1) ∧ w'.cell? ⟨gb648, 2, none⟩ = some (.int .i64 a0_2)) (ds := []) #[false, false, false, false, false, false, false, false, false, false] (by kernel_rfl) rfl rfl ⟨(blk_cell BK648.out 0).trans rfl, (blk_cell BK648.out 1).trans rfl, (blk_cell BK648.out 2).trans rfl⟩ (fun hHeld => ?_); refine with_tabW spec_pzFits.tab3 spec_pzFits.bits3 (fun HT_ HW_ => ?_)
    generalize wc.drew = w13 at BK648 HB hHeld ⊢
    refine pure_ (i := 0) (N := some 20) (v := ?_) (a' := ?_) #[true, false, false, false, false, false, false, false, false, false] rfl rfl (any_of HT_.out (by kernel_rfl)) (fun _ _ _ h => h) (Or.inl ⟨by rfl, ?_⟩) ?_ ?_
    rotate_left
    ·intro w'
     go_simp
     with_reducible rfl
    rotate_left
    ·simp only [Act.put, List.setIfInBounds_toArray, List.set_cons_zero, List.set_cons_succ, i64_w, i32_w]
     rfl
    refine pure_ (i := 2) (N := some 22) (v := ?_) (a' := ?_) #[true, false, true, false, false, false, false, false, false, false] rfl rfl (any_of HT_.out (by kernel_rfl)) (fun _ _ _ h => h) (Or.inl ⟨by rfl, ?_⟩) ?_ ?_
    rotate_left
    ·intro w'
     go_simp
     with_reducible rfl
    rotate_left
    ·simp only [Act.put, List.setIfInBounds_toArray, List.set_cons_zero, List.set_cons_succ, i64_w, i32_w]
     rfl
    refine pure_ (i := 4) (N := some 24) (v := ?_) (a' := ?_) #[true, false, true, false, true, false, false, false, false, false] rfl rfl (any_of HT_.out (by kernel_rfl)) (fun _ _ _ h => h) (Or.inl ⟨by rfl, ?_⟩) ?_ ?_
    rotate_left
    ·intro w'
     go_simp
     with_reducible rfl
    rotate_left
    ·simp only [Act.put, List.setIfInBounds_toArray, List.set_cons_zero, List.set_cons_succ, i64_w, i32_w]
     rfl
    refine pure_ (i := 6) (N := some 26) (v := ?_) (a' := ?_) #[true, false, true, false, true, false, true, false, false, false] rfl rfl (any_of HT_.out (by kernel_rfl)) (fun _ _ _ h => h) (Or.inl ⟨by rfl, ?_⟩) ?_ ?_
    rotate_left
    ·intro w'
     go_simp
     with_reducible rfl
    rotate_left
    ·simp only [Act.put, List.setIfInBounds_toArray, List.set_cons_zero, List.set_cons_succ, i64_w, i32_w]
     rfl
    refine take_ (i := 1) (N := some 21) (v := ?_) (a' := ?_) #[true, true, true, false, true, false, true, false, false, false] rfl rfl (take_ofW HT_.out HW_.out (by kernel_rfl)) (fun _ _ _ h => h) (Or.inl ⟨by rfl, ?_⟩) hHeld ?_ ?_
    rotate_left
    ·rintro w' ⟨s0, s1, s2⟩
     go_simp
     with_reducible rfl
    rotate_left
    ·simp only [Act.put, List.setIfInBounds_toArray, List.set_cons_zero, List.set_cons_succ, i64_w, i32_w]
     rfl
    refine take_ (i := 3) (N := some 23) (v := ?_) (a' := ?_) #[true, true, true, true, true, false, true, false, false, false] rfl rfl (take_ofW HT_.out HW_.out (by kernel_rfl)) (fun _ _ _ h => h) (Or.inl ⟨by rfl, ?_⟩) hHeld ?_ ?_
    rotate_left
    ·rintro w' ⟨s0, s1, s2⟩
     go_simp
     with_reducible rfl
    rotate_left
    ·simp only [Act.put, List.setIfInBounds_toArray, List.set_cons_zero, List.set_cons_succ, i64_w, i32_w]
     rfl
    refine take_ (i := 7) (N := some 27) (v := ?_) (a' := ?_) #[true, true, true, true, true, false, true, true, false, false] rfl rfl (take_ofW HT_.out HW_.out (by kernel_rfl)) (fun _ _ _ h => h) (Or.inl ⟨by rfl, ?_⟩) hHeld ?_ ?_
    rotate_left
    ·rintro w' ⟨s0, s1, s2⟩
     go_simp
     with_reducible rfl
    rotate_left
    ·simp only [Act.put, List.setIfInBounds_toArray, List.set_cons_zero, List.set_cons_succ, i64_w, i32_w]
     rfl
    refine one_ (i := 5) (N := some 25) #[true, true, true, true, true, true, true, true, false, false] rfl rfl (one_of HT_.out (by kernel_rfl)) (by decide) (fun K hK => ?_)
    refine goes_ Tryz.func153 (by kernel_rfl) rfl #[.int .i64 a0_0, .int .i64 a0_1, .slice A1 l1.length c1] (by rfl) rfl rfl (by (try simp only [List.map_toArray, List.map_cons, List.map_nil]); first | done | rfl | (simp only [List.length_drop, List.length_take]; rfl)) ?_
    with_reducible refine (spec_pzValue.calls kj2 a0_0 a0_1 _ _ l1 t650 _ ?side1 ?side2 A12.out).mono ?_
    (case side1 => repeat (first | exact (Kd.C_below HR1.out HB.out) | (with_reducible refine Kd.C_alloc ?_ _) | (with_reducible refine Kd.C_drewN ?_ _) | (with_reducible refine Kd.C_drew ?_)))
    (case side2 => exact HC1.out)
    rintro e w14 ⟨rfl, hb⟩
    refine ⟨_, rfl, ?_⟩
    have n0_ := Aside0.mk (blk_below (g := gb648) (o := .cells #[.int .i64 a0_0, .int .i64 a0_1, .int .i64 a0_2] 86 (0, 0)) (by (with_reducible repeat (first | refine blk_drewN ?_ _ | refine blk_drew ?_ | refine blk_alloc ?_ _)); exact BK648.out) hb)
    have n1_ := Aside0.mk (below_step (by repeat (first | (with_reducible first | exact HB.out | apply below_alloc | apply pw_below_drewN | apply below_drew1 | refine below_set ?_ GE648.out) | exact HB.out)) hb)
    clear BK648
    clear HB
    have BK648 := n0_
    have HB := n1_
    clear n0_ n1_
    (try clear hb)
    (try clear hb2)
    (try clear hk)
    (try clear hi)
    refine hK.out _ _ ⟨(blk_cell BK648.out 0).trans rfl, (blk_cell BK648.out 1).trans rfl, (blk_cell BK648.out 2).trans rfl⟩ (fun hHeld => ?_)
    clear hK K
    refine norm_ (a' := ?_) ?_ ?_
    rotate_left
    ·show Act.put _ (some 25) _ = _
     simp only [Act.put, List.setIfInBounds_toArray, List.set_cons_zero, List.set_cons_succ, i64_w, i32_w]
     rfl
    refine pure_ (i := 8) (N := some 28) (v := ?_) (a' := ?_) #[true, true, true, true, true, true, true, true, true, false] rfl rfl (any_of HT_.out (by kernel_rfl)) (fun _ _ _ h => h) (Or.inl ⟨by rfl, ?_⟩) ?_ ?_
    rotate_left
    ·intro w'
     go_simp
     with_reducible rfl
    rotate_left
    ·simp only [Act.put, List.setIfInBounds_toArray, List.set_cons_zero, List.set_cons_succ, i64_w, i32_w]
     rfl
    refine pure_ (i := 9) (N := some 4) (v := ?_) (a' := ?_) #[true, true, true, true, true, true, true, true, true, true] rfl rfl (any_of HT_.out (by kernel_rfl)) (fun _ _ _ h => h) (Or.inl ⟨by rfl, ?_⟩) ?_ ?_
    rotate_left
    ·intro w'
     go_simp
     with_reducible rfl
    rotate_left
    ·simp only [Act.put, List.setIfInBounds_toArray, List.set_cons_zero, List.set_cons_succ, i64_w, i32_w]
     rfl
    refine done_ (done_of HT_.out (by kernel_rfl)) ?_
    try go_wp2
    go_ret
    exact ⟨by first | rfl | (simp [errW_none, errW_some] <;> rfl) | (simp [*, errW_none, errW_some] <;> rfl), by repeat (first | (with_reducible first | exact HB.out | apply below_alloc | apply pw_below_drewN | apply below_drew1 | refine below_set ?_ GE648.out) | exact HB.out)⟩
end Go.Proofs.YtnncjnjfdhbddaaGreat.Z
namespace Go.Proofs.YtnncjnjfdhbddaaGreat.Z
open Go.RowKit Go.Proofs.YtnncjnjfdhbddaaGreatW.PrintWords Go.Proofs.YtnncjnjfdhbddaaGreatW.PrintLast Go.Proofs.YtnncjnjfdhbddaaGreatW.PrintMore
attribute [local go_sem] max2_int min2_int max_two min_two max_three min_three max_four min_four
set_option linter.unusedVariables false
set_option linter.unusedSimpArgs false
def fitsW (n : Nat) (wins : List Bool) (c : S86) : Bool := !(neC (toldV n wins c) c)
theorem pzOne_f (b : Bool) : spec_pzOne.f b = some (oneB b) := by cases b <;> rfl
theorem shr_nat (m i : Nat) (hi : i < 62) : shr .i64 (m : Int) (i : Int) = ((m >>> i : Nat) : Int) := by
 unfold shr
 rw [show min (i : Int).toNat IntKind.i64.bits = i by simp [IntKind.bits]; omega]
 exact shiftI m i
theorem pzCount_l (wins : List Bool) (hl : wins.length ≤ 512) : ∀ (d j c : Nat), j + d = wins.length → c ≤ j → spec_pzValue.l0 (d + 1) (c : Int) wins (wins.length : Int) (j : Int) = some (((c + (wins.drop j).countP id : Nat)) : Int)
 | 0, j, c, h, hc => by
  rw [spec_pzValue.l0, if_neg (by omega), List.drop_eq_nil_of_le (by omega)]
  simp
 | d + 1, j, c, h, hc => by
  have hj : j < wins.length := by omega
  have e : wins.drop j = wins.getD j false :: wins.drop (j + 1) := by rw [List.drop_eq_getElem_cons hj]; simp [List.getD_eq_getElem?_getD, hj]
  have hrd : rdOf false wins (j : Int) = wins.getD j false := by simp [rdOf]
  rw [spec_pzValue.l0, if_pos (by omega), if_pos (by omega), if_pos (by omega), hrd, pzOne_f, Option.bind_some, wrap64_nat1 j (by omega), e]
  cases hb : wins.getD j false with
  | true =>
   rw [show (c : Int) + oneB true = (c : Int) + 1 from rfl, wrap64_nat1 c (by omega), pzCount_l wins hl d (j + 1) (c + 1) (by omega) (by omega)]; simp; omega
  | false =>
   rw [show (c : Int) + oneB false = (c : Int) from Int.add_zero _, wrap64_nat c (by omega), pzCount_l wins hl d (j + 1) c (by omega) (by omega)]; simp
theorem pzSwing_l (n : Nat) (hn : n ≤ 4) (wins : List Bool) (hw : wins.length = 2 ^ n) (k : Nat) (hk : k < n) : ∀ (d j : Nat) (l : List Int), j + d = wins.length → l.length ≤ j →
  ∃ out, spec_pwSwings.l0 (d + 1) wins (k : Int) l wins (wins.length : Int) (j : Int) = some out ∧ out.length = l.length + ((List.range wins.length).drop j).countP (swB wins k)
 | 0, j, l, h, hl => by
  refine ⟨l, ?_, ?_⟩
  ·rw [spec_pwSwings.l0, if_neg (by omega)]
  ·rw [List.drop_eq_nil_of_le (by simp; omega)]; simp
 | d + 1, j, l, h, hl => by
  have hj : j < wins.length := by omega
  have h16 : 2 ^ n ≤ 16 := Nat.le_trans (Nat.pow_le_pow_right (by decide) hn) (by decide)
  have hrd : ∀ m : Nat, rdOf false wins (m : Int) = wins.getD m false := fun m => by simp [rdOf]
  have hsb := shift_bit j k
  have htm : Int.tmod (((j >>> k : Nat)) : Int) 2 = (((j >>> k) % 2 : Nat) : Int) := by
   rw [Int.tmod_eq_emod_of_nonneg (Int.natCast_nonneg _)]; omega
  have step := fun (l' : List Int) (hl' : l'.length ≤ j + 1) => pzSwing_l n hn wins hw k hk d (j + 1) l' (by omega) hl'
  rw [spec_pwSwings.l0, if_pos (by omega), if_pos (by omega), if_pos (by omega), if_pos (by omega), shr_nat j k (by omega), htm, hsb, wrap64_nat1 j (by omega), range_count_step _ _ _ hj]
  cases hb : j.testBit k with
  | true =>
   obtain ⟨out, h1, h2⟩ := step l (by omega)
   refine ⟨out, ?_, ?_⟩
   ·rw [if_neg (by simp)]; exact h1
   ·rw [h2]; simp [swB, hb]
  | false =>
   rw [if_pos (by simp), hrd]
   cases hwj : wins.getD j false with
   | true =>
    obtain ⟨out, h1, h2⟩ := step l (by omega)
    refine ⟨out, ?_, ?_⟩
    ·rw [if_pos rfl]; exact h1
    ·rw [h2]; simp only [swB, hb, hwj]; simp
   | false =>
    have h1 := fit4 n hn k hk j (by omega) hb
    have hp : 2 ^ k < 2 ^ n := Nat.pow_lt_pow_right (by decide) hk
    have e : wrap64 ((j : Int) + shl .i64 1 (k : Int)) = ((j + 2 ^ k : Nat) : Int) := by
     rw [shl_nat (by omega)]
     have := wrap64_nat (j + 2 ^ k) (by omega)
     rw [← this]; congr 1
    rw [if_neg (by simp), e]
    generalize hz : j + 2 ^ k = z at h1 ⊢
    rw [if_pos (by omega), if_pos (by omega), hrd]
    cases hwz : wins.getD z false with
    | false =>
     obtain ⟨out, h1, h2⟩ := step l (by omega)
     refine ⟨out, ?_, ?_⟩
     ·rw [if_neg (by simp)]; exact h1
     ·rw [h2]; simp only [swB, hb, hwj, hz, hwz]; simp
    | true =>
     obtain ⟨out, h1, h2⟩ := step (l ++ [(j : Int)]) (by simp; omega)
     refine ⟨out, ?_, ?_⟩
     ·rw [if_pos rfl, if_pos (by omega)]; exact h1
     ·rw [h2]; simp only [swB, hb, hwj, hz, hwz]; simp; omega
theorem pzPair_l (n : Nat) (hn : n ≤ 4) (wins : List Bool) (hw : wins.length = 2 ^ n) (b : Bool) (kd : Int) (hkd : kd = if b then 4 else 5) : ∀ (d j : Nat), j + d = wins.length → spec_pzValue.l1 (d + 1) kd wins ((wins.length - 1 : Nat) : Int) (wins.length : Int) (j : Int) = some (oneB (((List.range wins.length).drop j).all fun m => !(bothB b n wins m)))
 | 0, j, h => by
  rw [spec_pzValue.l1, if_neg (by omega), List.drop_eq_nil_of_le (by simp; omega)]
  rfl
 | d + 1, j, h => by
  have hj : j < wins.length := by omega
  have h16 : 2 ^ n ≤ 16 := Nat.le_trans (Nat.pow_le_pow_right (by decide) hn) (by decide)
  have hrd : ∀ m : Nat, rdOf false wins (m : Int) = wins.getD m false := fun m => by simp [rdOf]
  have ih := pzPair_l n hn wins hw b kd hkd d (j + 1) (by omega)
  have e : wrap64 (((wins.length - 1 : Nat) : Int) - (j : Int)) = ((2 ^ n - 1 - j : Nat) : Int) := by
   have := wrap64_nat (2 ^ n - 1 - j) (by omega)
   rw [← this]; congr 1; omega
  rw [spec_pzValue.l1, if_pos (by omega), e, hrd, hrd, wrap64_nat1 j (by omega), ih, range_all_step _ _ _ hj, bothB]
  cases b with
  | true =>
   obtain rfl : kd = 4 := hkd
   rw [if_pos rfl, if_pos (by omega), if_pos (by omega)]
   cases wins.getD j false with
   | false => simp
   | true =>
    rw [if_pos rfl, if_pos (by omega), if_pos (by omega)]
    cases wins.getD (2 ^ n - 1 - j) false <;> simp [oneB]
  | false =>
   obtain rfl : kd = 5 := hkd
   rw [if_neg (by decide), if_pos rfl, if_pos (by omega), if_pos (by omega)]
   cases wins.getD j false with
   | true => simp
   | false =>
    rw [if_neg (by simp), if_pos (by omega), if_pos (by omega)]
    cases wins.getD (2 ^ n - 1 - j) false <;> simp [oneB]
theorem pzFits_f (n : Nat) (hn : n ≤ 4) (wins : List Bool) (hw : wins.length = 2 ^ n) (x : S86) (hx : clueB (n : Int) x = true) : spec_pzFits.f (wins.length + 2) x.f0 x.f1 x.f2 wins = some (fitsW n wins x) := by
 have h16 : 2 ^ n ≤ 16 := Nat.le_trans (Nat.pow_le_pow_right (by decide) hn) (by decide)
 have hn1 := Nat.two_pow_pos n
 have hrd : ∀ m : Nat, rdOf false wins (m : Int) = wins.getD m false := fun m => by simp [rdOf]
 obtain ⟨k, a, b⟩ := x
 unfold clueB at hx
 unfold fitsW neC toldV
 simp only at hx ⊢
 have hlen : wrap64 ((wins.length : Int) - 1) = ((wins.length - 1 : Nat) : Int) := by
  have := wrap64_nat (wins.length - 1) (by omega)
  rw [← this]; congr 1; omega
 by_cases h0 : k = 0
 ·subst h0
  simp only [if_true, Bool.and_eq_true] at hx ⊢
  have h1 := inI_of hx.1
  obtain ⟨a, rfl⟩ := Int.eq_ofNat_of_zero_le h1.1
  have e : ((2 : Int) ^ n) = ((2 ^ n : Nat) : Int) := by simp
  have ha : a < wins.length := by have := h1.2; rw [Int.toNat_natCast] at this; omega
  rw [spec_pzFits.f, if_neg (by decide), show decide ((0 : Int) > 3) = false from rfl, spec_pzFits.j0, if_neg (by simp), spec_pzValue.f, if_pos rfl, if_pos (by omega), if_pos (by omega), hrd, pzOne_f, Int.toNat_natCast]
  simp
 by_cases h1 : k = 1
 ·subst h1
  simp only [show ¬ (1 : Int) = 0 by decide, if_true, if_false, Bool.and_eq_true] at hx ⊢
  have hb := hx.2
  simp only [beq_iff_eq] at hb
  have hc := pzCount_l wins (by omega) wins.length 0 0 (by omega) (by omega)
  rw [spec_pzFits.f, if_pos rfl, spec_pzFits.j0, if_pos rfl, spec_pzValue.f, if_neg (by decide), if_pos rfl]
  rw [show (0 : Int) = ((0 : Nat) : Int) from rfl, hc]
  simp [countW, hb]
 by_cases h2 : k = 2
 ·subst h2
  simp only [show ¬ (2 : Int) = 0 by decide, show ¬ (2 : Int) = 1 by decide, if_true, if_false, Bool.and_eq_true] at hx ⊢
  have h1 := inI_of hx.1
  obtain ⟨a, rfl⟩ := Int.eq_ofNat_of_zero_le h1.1
  have ha : a < n := by omega
  have hp : 2 ^ a < 2 ^ n := Nat.pow_lt_pow_right (by decide) ha
  have e : wrap64 (((wins.length - 1 : Nat) : Int) - shl .i64 1 (a : Int)) = ((2 ^ n - 1 - 2 ^ a : Nat) : Int) := by
   rw [shl_nat (by omega)]
   generalize 2 ^ a = p at *
   generalize 2 ^ n = q at *
   have := wrap64_nat (q - 1 - p) (by omega)
   rw [← this]; congr 1; omega
  have hz : 2 ^ n - 1 - 2 ^ a < wins.length := by
   generalize 2 ^ a = p at *
   generalize 2 ^ n = q at *
   omega
  rw [spec_pzFits.f, if_neg (by decide), show decide ((2 : Int) > 3) = false from rfl, spec_pzFits.j0, if_neg (by simp), spec_pzValue.f, if_neg (by decide), if_neg (by decide), if_pos rfl, hlen, e, Int.toNat_natCast]
  generalize 2 ^ n - 1 - 2 ^ a = z at hz ⊢
  rw [if_pos (by omega), if_pos (by omega), if_pos (by omega), hrd, pzOne_f]
  simp
 by_cases h3 : k = 3
 ·subst h3
  simp only [show ¬ (3 : Int) = 0 by decide, show ¬ (3 : Int) = 1 by decide, show ¬ (3 : Int) = 2 by decide, if_true, if_false, Bool.and_eq_true] at hx ⊢
  have h1 := inI_of hx.1
  obtain ⟨a, rfl⟩ := Int.eq_ofNat_of_zero_le h1.1
  have ha : a < n := by omega
  obtain ⟨out, ho, hol⟩ := pzSwing_l n hn wins hw a ha wins.length 0 [] (by omega) (by simp)
  have hsw : (swingsL n wins).getD a 0 = ((swCount wins a : Nat) : Int) := by simp [swingsL, List.getD_eq_getElem?_getD, ha]
  have hol2 : out.length = swCount wins a := by rw [hol]; simp [swCount]
  rw [spec_pzFits.f, if_neg (by decide), show decide ((3 : Int) > 3) = false from rfl, spec_pzFits.j0, if_neg (by simp), spec_pzValue.f, if_neg (by decide), if_neg (by decide), if_neg (by decide), if_pos rfl, spec_pwSwings.f]
  rw [show (0 : Int) = ((0 : Nat) : Int) from rfl, ho, Int.toNat_natCast, show (((0 : Nat) : Int)) = 0 from rfl, hsw]
  simp [hol2]
 by_cases h4 : k = 4
 ·subst h4
  simp only [show ¬ (4 : Int) = 0 by decide, show ¬ (4 : Int) = 1 by decide, show ¬ (4 : Int) = 2 by decide, show ¬ (4 : Int) = 3 by decide, true_or, if_true, if_false, Bool.and_eq_true] at hx ⊢
  have hb : b = 0 := by simpa using hx.2
  have hc := pzPair_l n hn wins hw true 4 rfl wins.length 0 (by omega)
  rw [spec_pzFits.f, if_neg (by decide), show decide ((4 : Int) > 3) = true from rfl, spec_pzFits.j0, if_pos rfl, spec_pzValue.f, if_neg (by decide), if_neg (by decide), if_neg (by decide), if_neg (by decide), hlen]
  rw [show (0 : Int) = ((0 : Nat) : Int) from rfl, hc]
  simp [properB, hb]
 by_cases h5 : k = 5
 ·subst h5
  simp only [show ¬ (5 : Int) = 0 by decide, show ¬ (5 : Int) = 1 by decide, show ¬ (5 : Int) = 2 by decide, show ¬ (5 : Int) = 3 by decide, show ¬ (5 : Int) = 4 by decide, or_true, if_true, if_false, Bool.and_eq_true] at hx ⊢
  have hb : b = 0 := by simpa using hx.2
  have hc := pzPair_l n hn wins hw false 5 rfl wins.length 0 (by omega)
  rw [spec_pzFits.f, if_neg (by decide), show decide ((5 : Int) > 3) = true from rfl, spec_pzFits.j0, if_pos rfl, spec_pzValue.f, if_neg (by decide), if_neg (by decide), if_neg (by decide), if_neg (by decide), hlen]
  rw [show (0 : Int) = ((0 : Nat) : Int) from rfl, hc]
  simp [strongB, hb]
 ·exfalso
  simp [h0, h1, h2, h3, h4, h5] at hx
end Go.Proofs.YtnncjnjfdhbddaaGreat.Z
