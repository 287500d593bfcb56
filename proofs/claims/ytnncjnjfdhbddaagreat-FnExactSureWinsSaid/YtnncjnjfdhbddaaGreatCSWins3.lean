import Derived.Test.YtnncjnjfdhbddaaGreatCSWins1
import Derived.Test.YtnncjnjfdhbddaaGreatCSWins2
import Derived.Shelf.Abstract
import Derived.Deep.RegionHeld3
import Derived.Deep.RegionLaw
import Derived.BigQuiet
import Derived.Deep.QuietTactic
namespace Go.Proofs.YtnncjnjfdhbddaaGreat.Z
open Go.RowKit Go.Proofs.YtnncjnjfdhbddaaGreatW.PrintWords Go.Proofs.YtnncjnjfdhbddaaGreatW.PrintLast Go.Proofs.YtnncjnjfdhbddaaGreatW.PrintMore
attribute [local go_sem] max2_int min2_int max_two min_two max_three min_three max_four min_four
set_option linter.unusedVariables false
set_option linter.unusedSimpArgs false
def fillB (p : Nat → Bool) (N kk : Nat) : List Bool := (List.range kk).map p ++ List.replicate (N - kk) false
theorem fillB_zero (p : Nat → Bool) (N : Nat) : fillB p N 0 = List.replicate N false := by simp [fillB]
theorem fillB_all (p : Nat → Bool) (N : Nat) : fillB p N N = (List.range N).map p := by simp [fillB]
theorem fillB_len (p : Nat → Bool) (N kk : Nat) (h : kk ≤ N) : (fillB p N kk).length = N := by simp [fillB]; omega
theorem fillB_set (p : Nat → Bool) (N kk : Nat) (h : kk < N) : (fillB p N kk).set kk (p kk) = fillB p N (kk + 1) := by
 unfold fillB
 obtain ⟨d, hd⟩ : ∃ d, N - kk = d + 1 := ⟨N - kk - 1, by omega⟩
 rw [List.set_append_right _ _ (by simp), hd, show N - (kk + 1) = d by omega, List.range_succ]
 simp [List.replicate_succ]
theorem madeCells_one (v : Value) (N : Nat) : madeCells #[v] N = (List.replicate N v).toArray := by
 apply Array.ext
 ·simp [size_madeCells]
 ·intro i h1 h2; simp [madeCells, Nat.mod_one]
def VRow (h N : Nat) (l : List Bool) (W : World) : Prop := W.heap[h + 1]? = some (.cells (l.map Value.bool).toArray 4 (0, 0))
theorem VRow.cell {h N : Nat} {l : List Bool} {W : World} (H : VRow h N l W) (k : Nat) (hk : k < l.length) : W.cell? ⟨h + 1, k, none⟩ = some (.bool (l.getD k false)) := by
 rw [blk_cell H k]
 simp [hk, List.getD_eq_getElem?_getD]
theorem VRow.free {h N : Nat} {l : List Bool} {W : World} (H : VRow h N l W) (k : Nat) : W.frozen? ⟨h + 1, k, none⟩ = false := blk_frozen H k
theorem VRow.set {h N : Nat} {l : List Bool} {W : World} (H : VRow h N l W) (k : Nat) (b : Bool) : VRow h N (l.set k b) (W.setCell ⟨h + 1, k, none⟩ (.bool b)) := by
 have := blk_set H k (.bool b)
 unfold VRow
 rw [this]
 simp [List.map_set]
def VHdr (h n N : Nat) (W : World) : Prop := W.heap[h + 1 + 1]? = some (.cells #[.int .i64 (n : Int), .slice (some ⟨h + 1, 0, none⟩) N N] 68 (0, 0))
def VRes (h : Nat) (W : World) : Prop := W.heap[h]? = some (.cells #[.int .i64 0, .slice none 0 0] 68 (0, 0))
set_option maxRecDepth 100000 in
set_option maxHeartbeats 4000000 in
theorem votesOf_any (n : Nat) (hn : n ≤ 9) (p : Nat → Bool) (g : Nat) (cb : Array Value) (w : World)
  (eg : ∀ args w, (callFunc g args).run Tryz.prog w = .ok (.enter g args) w)
  (hp : ∀ W m, m < 2 ^ n → Below w.heap.size w W → Calls Tryz.prog g (#[.int .i64 (m : Int)] ++ cb) W fun e w' => e = .returned (.bool (p m)) ∧ Below W.heap.size W w') :
  Calls Tryz.prog 112 #[.int .i64 (n : Int), .func (.func g) #[] cb] w fun e w' => ∃ v : Value, e = .returned (.agg #[.int .i64 (n : Int), v]) ∧ Kd.R Kd.bool 4 w' w.heap.size (fun _ => True) v ((List.range (2 ^ n)).map p) ∧ Below w.heap.size w w' := by
 have hu68 := Tryz.underlying68
 have HP := Aside0.mk hp
 clear hp
 obtain ⟨N, hN⟩ : ∃ N : Nat, N = 2 ^ n := ⟨_, rfl⟩
 have h4 : wrap64 (2 ^ n) = (N : Int) := wrap_pow hn hN
 have kmk := print_make_of (P := Tryz.prog) 66 4 (.bool false) 1 Tryz.underlying66 infoBo rfl (by decide) N (by have := pow_le9 hn; omega)
 have HN := Aside0.mk hN
 have HL := Aside0.mk (hN ▸ pow_le9 hn : N ≤ 512)
 clear hN
 go_enter Tryz.func112, Tryz.ntmps112
 go_wp2
 clear kmk h4
 go_loopg [6, 15] N (fun gg _ s15 wr => ∃ kk : Nat, kk ≤ N ∧ N - kk ≤ gg ∧ s15 = .int .i64 kk ∧ Aside0 (Below w.heap.size w wr) ∧ Aside0 (VRow w.heap.size N (fillB p N kk) wr) ∧ Aside0 (VHdr w.heap.size n N wr) ∧ Aside0 (VRes w.heap.size wr))
 case atStart =>
  refine ⟨0, Nat.zero_le _, by omega, rfl, ⟨((Below.refl _ _).alloc (Nat.le_refl _) _ |>.alloc (by simp) _ |>.alloc (by simp; omega) _)⟩, ⟨?_⟩, ⟨?_⟩, ⟨?_⟩⟩
  ·unfold VRow
   rw [fillB_zero, madeCells_one, heap3_1, List.map_replicate]
  ·unfold VHdr
   rw [heap3_2]
  ·unfold VRes
   rw [heap3_0]
 case round =>
  obtain ⟨kk, hkk, hg, rfl, BW, HR, HH, HZ⟩ := hrel
  by_cases hlt : kk < N
  ·have hltz : (kk : Int) < (N : Int) := by omega
   have h0z : (0 : Int) ≤ (kk : Int) := by omega
   have hl512 := HL.out
   have hc1 : wr.cell? ⟨w.heap.size + 1 + 1, 1, none⟩ = some (.slice (some ⟨w.heap.size + 1, 0, none⟩) N N) := (blk_cell HH.out 1).trans rfl
   have hc2 := HR.out.cell kk (by rw [fillB_len _ _ _ hkk]; exact hlt)
   have hf2 := HR.out.free kk
   go_wp2
   go_region_held3 (fun w' => w'.cell? ⟨w.heap.size + 1 + 1, 1, none⟩ = some (.slice (some ⟨w.heap.size + 1, 0, none⟩) N N)) (go_keep)
    (first | (go_at_fn g; refine (HP.out _ kk (by have := HN.out; omega) (below_drew BW.out)).mono ?_; rintro e w1 ⟨rfl, hb1⟩; have hh1 : w1.cell? ⟨w.heap.size + 1 + 1, 1, none⟩ = some (.slice (some ⟨w.heap.size + 1, 0, none⟩) N N) := (hb1.cell (World.block_lt_of_cell? wr _ hc1)).trans hc1; have hc3 : w1.cell? ⟨w.heap.size + 1, kk, none⟩ = some (.bool ((fillB p N kk).getD kk false)) := (hb1.cell (World.block_lt_of_cell? wr _ hc2)).trans hc2; have hf3 : w1.frozen? ⟨w.heap.size + 1, kk, none⟩ = false := (hb1.frozen (World.block_lt_of_cell? wr _ hc2)).trans hf2; have HB1 := Aside0.mk hb1; clear hb1))
   go_wp2
   have hh := below_drew BW.out
   go_roundg (N - (kk + 1))
   case measure => omega
   case rel =>
    have hb1 := HB1.out
    have hlt1 : w.heap.size + 1 + 1 < wr.heap.size := blk_lt HH.out
    have r1 : VRow w.heap.size N (fillB p N kk) w1 := (hb1.block _ (Nat.lt_trans (Nat.lt_succ_self _) hlt1)).trans HR.out
    have r2 : VHdr w.heap.size n N w1 := (hb1.block _ hlt1).trans HH.out
    have r3 : VRes w.heap.size w1 := (hb1.block _ (Nat.lt_trans (Nat.lt_succ_self _) (Nat.lt_trans (Nat.lt_succ_self _) hlt1))).trans HZ.out
    refine ⟨kk + 1, by omega, by omega, by go_num, ⟨?_⟩, ⟨?_⟩, ⟨?_⟩, ⟨?_⟩⟩
    ·exact (Below.trans hh (hb1.mono hh.size)).setCell (by simp) _
    ·have := r1.set kk (p kk)
     rwa [fillB_set p N kk hlt] at this
    ·exact blk_far r2 (by simp) _
    ·exact blk_far r3 (by simp) _
  ·have hltz : ¬ (kk : Int) < (N : Int) := by omega
   have : kk = N := by omega
   subst this
   have hc0 : wr.cell? ⟨w.heap.size + 1 + 1, 0, none⟩ = some (.int .i64 (n : Int)) := (blk_cell HH.out 0).trans rfl
   have hc1 : wr.cell? ⟨w.heap.size + 1 + 1, 1, none⟩ = some (.slice (some ⟨w.heap.size + 1, 0, none⟩) kk kk) := (blk_cell HH.out 1).trans rfl
   have hz0 : wr.cell? ⟨w.heap.size, 0, none⟩ = some (.int .i64 0) := (blk_cell HZ.out 0).trans rfl
   have hz1 : wr.cell? ⟨w.heap.size, 1, none⟩ = some (.slice none 0 0) := (blk_cell HZ.out 1).trans rfl
   have hf0 := blk_frozen HZ.out 0
   have hf1 := blk_frozen HZ.out 1
   go_wp2
   refine bodyPost_ret (results_cell_row rfl _ _ w.heap.size 68 #[.int .i64 (n : Int), .slice (some ⟨w.heap.size + 1, 0, none⟩) kk kk] (0, 0) _ rfl (blk_set (blk_set HZ.out 0 _) 1 _) Tryz.underlying68 rfl (by kernel_rfl)) rfl ?_
   refine ⟨_, rfl, ?_, ((BW.out.setCell (Nat.le_refl _) _).setCell (Nat.le_refl _) _)⟩
   rw [← HN.out, ← fillB_all]
   have hlen := fillB_len p kk kk (Nat.le_refl _)
   have hrow : VRow w.heap.size kk (fillB p kk kk) ((wr.setCell ⟨w.heap.size, 0, none⟩ (.int .i64 (n : Int))).setCell ⟨w.heap.size, 1, none⟩ (.slice (some ⟨w.heap.size + 1, 0, none⟩) kk kk)) := blk_far (blk_far HR.out (by simp) _) (by simp) _
   refine Kd.R_of_own ⟨by simp [encs], .inr ⟨w.heap.size + 1, kk, _, by rw [hlen], by omega, hrow, by omega, by have := HL.out; simp only [maxLen]; omega, ?_, ?_⟩⟩ (fun _ _ => trivial)
   ·simp [hlen]
   ·simp [encs, List.take_of_length_le]
end Go.Proofs.YtnncjnjfdhbddaaGreat.Z
namespace Go.Proofs.YtnncjnjfdhbddaaGreat.Z
open Go.RowKit Go.Proofs.YtnncjnjfdhbddaaGreatW.PrintWords Go.Proofs.YtnncjnjfdhbddaaGreatW.PrintLast Go.Proofs.YtnncjnjfdhbddaaGreatW.PrintMore
attribute [local go_sem] max2_int min2_int max_two min_two max_three min_three max_four min_four
set_option linter.unusedVariables false
set_option linter.unusedSimpArgs false
def tabs : Nat → List Nat
 | 0 => [0, 1]
 | n + 1 => (tabs n).flatMap fun a => ((tabs n).filter fun b => a &&& b == a).map fun b => (b * 2 ^ 2 ^ n) ||| a
def tabI (l : List Nat) : List Int := l.map fun (m : Nat) => (m : Int)
theorem tabI_get (l : List Nat) (i : Nat) : rd (tabI l) (i : Int) = ((l.getD i 0 : Nat) : Int) := by
 simp only [rd, tabI, Int.toNat_natCast, List.getD_eq_getElem?_getD, List.getElem?_map]
 cases l[i]? <;> simp
theorem tabs_len : ∀ n, n ≤ 4 → (tabs n).length ≤ 168 := by decide +kernel
theorem tabs_lt : ∀ n, n ≤ 4 → ∀ m ∈ tabs n, m < 65536 := by decide +kernel
def inner (n : Nat) (l : List Nat) (a : Nat) : List Nat := (l.filter fun b => a &&& b == a).map fun b => (b * 2 ^ 2 ^ n) ||| a
def tabsUpto (n : Nat) (l : List Nat) (kk jj : Nat) : List Nat := ((l.take kk).flatMap fun a => inner n l a) ++ (inner n (l.take jj) (l.getD kk 0))
theorem upto_start (n : Nat) (l : List Nat) : tabsUpto n l 0 0 = [] := by simp [tabsUpto, inner]
theorem upto_yes (n : Nat) (l : List Nat) (kk jj : Nat) (hj : jj < l.length) (h : (l.getD kk 0 &&& l.getD jj 0 == l.getD kk 0) = true) :
  tabsUpto n l kk (jj + 1) = tabsUpto n l kk jj ++ [(l.getD jj 0 * 2 ^ 2 ^ n) ||| l.getD kk 0] := by
 have e : l.take (jj + 1) = l.take jj ++ [l.getD jj 0] := by rw [List.take_succ_eq_append_getElem hj]; simp [List.getD_eq_getElem?_getD, hj]
 simp only [tabsUpto, inner, e, List.filter_append, List.map_append, List.append_assoc]
 rw [List.filter_cons, if_pos h]
 rfl
theorem upto_no (n : Nat) (l : List Nat) (kk jj : Nat) (hj : jj < l.length) (h : (l.getD kk 0 &&& l.getD jj 0 == l.getD kk 0) = false) :
  tabsUpto n l kk (jj + 1) = tabsUpto n l kk jj := by
 have e : l.take (jj + 1) = l.take jj ++ [l.getD jj 0] := by rw [List.take_succ_eq_append_getElem hj]; simp [List.getD_eq_getElem?_getD, hj]
 simp only [tabsUpto, inner, e, List.filter_append, List.map_append]
 rw [List.filter_cons, if_neg (by rw [h]; simp)]
 simp
theorem upto_next (n : Nat) (l : List Nat) (kk : Nat) (hk : kk < l.length) : tabsUpto n l kk l.length = tabsUpto n l (kk + 1) 0 := by
 have e : l.take (kk + 1) = l.take kk ++ [l.getD kk 0] := by rw [List.take_succ_eq_append_getElem hk]; simp [List.getD_eq_getElem?_getD, hk]
 simp [tabsUpto, inner, e]
theorem upto_end (n : Nat) (l : List Nat) : tabsUpto n l l.length 0 = l.flatMap fun a => inner n l a := by simp [tabsUpto, inner]
theorem inner_len (n : Nat) (l : List Nat) (a : Nat) : (inner n l a).length ≤ l.length := by
 simp only [inner, List.length_map]
 exact List.length_filter_le _ _
theorem flat_len (n : Nat) (l m : List Nat) : (m.flatMap fun a => inner n l a).length ≤ m.length * l.length := by
 induction m with
 | nil => simp
 | cons a m ih =>
  rw [List.flatMap_cons, List.length_append, List.length_cons, Nat.succ_mul]
  have := inner_len n l a
  omega
theorem upto_len (n : Nat) (l : List Nat) (kk jj : Nat) (hl : l.length ≤ 168) : (tabsUpto n l kk jj).length ≤ 30000 := by
 unfold tabsUpto
 rw [List.length_append]
 have h1 := flat_len n l (l.take kk)
 have h2 := inner_len n (l.take jj) (l.getD kk 0)
 have h3 : (l.take kk).length ≤ 168 := Nat.le_trans (by simp; omega) hl
 have h4 : (l.take jj).length ≤ 168 := Nat.le_trans (by simp; omega) hl
 have h5 : (l.take kk).length * l.length ≤ 168 * 168 := Nat.mul_le_mul h3 hl
 omega
theorem pow2_le (n : Nat) (hn : n < 4) : 2 ^ 2 ^ n ≤ 256 ∧ 2 ^ n ≤ 8 := by
 have : n = 0 ∨ n = 1 ∨ n = 2 ∨ n = 3 := by omega
 rcases this with h | h | h | h <;> subst h <;> decide
set_option maxRecDepth 100000 in
set_option maxHeartbeats 8000000 in
theorem tables_step (n : Nat) (hn : n < 4) (ih : ∀ w, Calls Tryz.prog 116 #[.int .i64 (n : Int)] w fun e w' => ∃ v : Value, e = .returned v ∧ Kd.R (Kd.int .i64) 3 w' w.heap.size (fun _ => True) v (tabI (tabs n)) ∧ Below w.heap.size w w') (w : World) :
  Calls Tryz.prog 116 #[.int .i64 ((n + 1 : Nat) : Int)] w fun e w' => ∃ v : Value, e = .returned v ∧ Kd.R (Kd.int .i64) 3 w' w.heap.size (fun _ => True) v (tabI (tabs (n + 1))) ∧ Below w.heap.size w w' := by
 have h1 := tabs_len n (by omega)
 have h2 := tabs_lt n (by omega)
 have h3 : tabs (n + 1) = (tabs n).flatMap fun a => inner n (tabs n) a := rfl
 rw [h3]
 generalize tabs n = l at *
 have ih2 : ∀ w, Calls Tryz.prog 116 #[.int .i64 (n : Int)] w fun e w' => ∃ A1 c1, e = .returned (.slice A1 l.length c1) ∧ Kd.C (Kd.int .i64) w' A1 l.length (tabI l) ∧ Below w.heap.size w w' := fun w => (ih w).mono fun e w' ⟨v, he, hR, hB⟩ => by
  obtain ⟨A1, c1, rfl, _, hC⟩ := Kd.R_reads hR
  have e1 : (tabI l).length = l.length := by simp [tabI]
  rw [e1] at he hC
  exact ⟨A1, c1, he, hC, hB⟩
 have IH := Aside0.mk ih2
 have HL := Aside0.mk h2
 have HL1 := Aside0.mk h1
 have hz : ((((n + 1 : Nat) : Int)) == 0) = false := beq_eq_false_iff_ne.mpr (by omega)
 have hz2 : wrap64 (((n + 1 : Nat) : Int) - 1) = (n : Int) := by unfold wrap64; omega
 obtain ⟨hp1, hp2⟩ := pow2_le n hn
 have hsh : IntKind.u64.wrap (2 ^ n) = ((2 ^ n : Nat) : Int) := by
  have : n = 0 ∨ n = 1 ∨ n = 2 ∨ n = 3 := by omega
  rcases this with h | h | h | h <;> subst h <;> decide
 have HPS := Aside0.mk (rfl : 2 ^ 2 ^ n = 2 ^ 2 ^ n)
 obtain ⟨sh, hshd⟩ : ∃ sh, sh = 2 ^ n := ⟨_, rfl⟩
 rw [← hshd] at hsh
 have HSH := Aside0.mk hshd
 clear ih ih2 h2 h3 HPS hshd
 have HUL := Aside0.mk (fun kk jj => upto_len n l kk jj h1)
 generalize hN : ((n + 1 : Nat) : Int) = N1 at *
 have hN2 : N1 - 1 = (n : Int) := by omega
 have hN3 : 1 ≤ N1 := by omega
 have hN4 : N1 ≤ 4 := by omega
 clear hN
 obtain ⟨N, hNl⟩ : ∃ N, N = l.length := ⟨_, rfl⟩
 rw [← hNl] at IH h1
 have HN := Aside0.mk hNl
 clear hNl
 go_enter Tryz.func116, Tryz.ntmps116
 go_wp2_with (go_at_call 116; refine (IH.out _).mono ?_; rintro e w1 ⟨A1, c1, rfl, hC, hb⟩; have HC := Aside0.mk hC; have HB := Aside0.mk hb; clear hb hC)
 clear IH
 go_loopg [4, 6, 8, 18, 22, 23, 24] N (fun gg v4 _ _ s18 _ _ _ wr => ∃ kk : Nat, kk ≤ N ∧ N - kk ≤ gg ∧ s18 = .int .i64 kk ∧ Aside0 (Below w1.heap.size w1 wr) ∧ Aside0 (Kd.R (Kd.int .i64) 3 wr w1.heap.size (fun _ => True) v4 (tabI (tabsUpto n l kk 0))))
 case atStart =>
  refine ⟨0, by omega, by omega, rfl, ⟨(Below.refl _ _).alloc (Nat.le_refl _) _⟩, ⟨?_⟩⟩
  rw [upto_start]
  exact Kd.R_of_own (xs := []) ⟨rfl, .inr ⟨w1.heap.size, 0, #[], rfl, Nat.le_refl _, heap1_0 _ _, Nat.le_refl _, by simp [maxLen], rfl, rfl⟩⟩ (fun _ _ => trivial)
 case round =>
  obtain ⟨kk, hkk, hg, rfl, BW, HO⟩ := hrel
  by_cases hlt : kk < N
  ·have hltz : (kk : Int) < (N : Int) := by omega
   have h0z : (0 : Int) ≤ (kk : Int) := by omega
   obtain ⟨ad, e, hcell⟩ := Kd.at_int (Kd.C_below HC.out BW.out) (kk : Int) h0z hltz
   rw [tabI_get, Int.toNat_natCast] at hcell
   subst e
   have ha := HL.out (l.getD kk 0) (by have := HN.out; simp [List.getD_eq_getElem?_getD, show kk < l.length by omega])
   have HK := Aside0.mk (rfl : l.getD kk 0 = l.getD kk 0)
   generalize hav : l.getD kk 0 = a at hcell ha
   have HAV := Aside0.mk hav
   clear hav
   go_wp2
   clear hcell
   obtain ⟨wo, hwo⟩ : ∃ wo : World, wo = wr := ⟨_, rfl⟩
   subst hwo
   go_loopg [4, 8, 24] N (fun gg2 v4 _ s24 wr2 => ∃ jj : Nat, jj ≤ N ∧ N - jj ≤ gg2 ∧ s24 = .int .i64 jj ∧ Aside0 (Below w1.heap.size w1 wr2) ∧ Aside0 (Kd.R (Kd.int .i64) 3 wr2 w1.heap.size (fun _ => True) v4 (tabI (tabsUpto n l kk jj))))
   case atStart => exact ⟨0, by omega, by omega, rfl, BW, HO⟩
   case round =>
    clear BW HO
    obtain ⟨jj, hjj, hg2, rfl, BW, HO⟩ := hrel
    by_cases hlt2 : jj < N
    ·have hltz2 : (jj : Int) < (N : Int) := by omega
     have h0z2 : (0 : Int) ≤ (jj : Int) := by omega
     obtain ⟨ad2, e, hcell2⟩ := Kd.at_int (Kd.C_below HC.out BW.out) (jj : Int) h0z2 hltz2
     rw [tabI_get, Int.toNat_natCast] at hcell2
     injection e with e
     subst e
     have hb := HL.out (l.getD jj 0) (by have := HN.out; simp [List.getD_eq_getElem?_getD, show jj < l.length by omega])
     have hyes := upto_yes n l kk jj (by have := HN.out; omega)
     have hno := upto_no n l kk jj (by have := HN.out; omega)
     rw [HAV.out] at hyes hno
     generalize hbv : l.getD jj 0 = b at hcell2 hb hyes hno
     clear hbv
     have hand := and_nat a b (by omega) (by omega)
     have hbl : b * 2 ^ 2 ^ n ≤ 65535 * 256 := Nat.mul_le_mul (by omega) hp1
     have hor := or_nat (b * 2 ^ 2 ^ n) a (by omega) (by omega)
     have HUL2 := Aside0.mk (HUL.out kk jj)
     cases hq : (a &&& b == a) with
     | false =>
      have HNO := Aside0.mk (hno hq)
      have hq2 : (((a &&& b : Nat) : Int) == (a : Int)) = false := by
       rw [beq_eq_false_iff_ne] at hq ⊢
       omega
      generalize a &&& b = ab at hand hq2
      clear hno hyes hq hor
      go_wp2
      go_roundg (N - (jj + 1))
      case measure => omega
      case rel => exact ⟨jj + 1, by omega, by omega, by go_num, BW, ⟨by rw [HNO.out]; exact HO.out⟩⟩
     | true =>
      have HYES := Aside0.mk (hyes hq)
      have hq2 : (((a &&& b : Nat) : Int) == (a : Int)) = true := by
       rw [beq_iff_eq] at hq ⊢
       omega
      generalize a &&& b = ab at hand hq2
      have h5 : wrap64 ((b : Int) * 2 ^ sh) = ((b * 2 ^ 2 ^ n : Nat) : Int) := by
       rw [HSH.out]
       have : ((b : Int) * 2 ^ 2 ^ n) = ((b * 2 ^ 2 ^ n : Nat) : Int) := by simp
       rw [this]
       unfold wrap64
       omega
      have hmin : min sh 64 = sh := by have := HSH.out; omega
      have h6 : wrap64 ((b : Int) * 2 ^ min sh 64) = ((b * 2 ^ 2 ^ n : Nat) : Int) := by rw [hmin]; exact h5
      generalize b * 2 ^ 2 ^ n = bs at h5 h6 hor HYES
      generalize bs ||| a = r at hor HYES
      clear hno hyes hq hmin hbl hp1 hp2
      go_wp2_with ((with_reducible refine gate_builtin (b := .append) (xs := #[.tmp 33, .tmp 41]) rfl ?_); at_builtin; refine Kd.R_append (Kd.int .i64) (w0 := w1) w1.heap.size rfl (.tmp 33) (.tmp 41) 36 3 (.int .i64 0) 8 rfl Tryz.underlying36 infoI rfl (by decide) (by omega) u4 (tabI (tabsUpto n l kk jj)) (r : Int) [.int .i64 (r : Int)] (fun _ => True) (fun _ => False) rfl rfl rfl (fun _ hk => hk.elim) (fun _ _ => trivial) HO.out BW.out BW.out.size (by have := HUL2.out; simp only [tabI, List.length_map]; omega) ?_; intro v1 w3 ho hb hg hat; have HO1 := Aside0.mk ho; have HB1 := Aside0.mk hb; clear ho hb hg hat)
      go_roundg (N - (jj + 1))
      case measure => omega
      case rel => exact ⟨jj + 1, by omega, by omega, by go_num, HB1, ⟨by rw [HYES.out, show tabI (tabsUpto n l kk jj ++ [r]) = tabI (tabsUpto n l kk jj) ++ [(r : Int)] by simp [tabI]]; exact HO1.out⟩⟩
    ·have hltz2 : ¬ (jj : Int) < (N : Int) := by omega
     have : jj = N := by omega
     subst this
     have HNX := Aside0.mk (upto_next n l kk (by have := HN.out; omega))
     rw [← HN.out] at HNX
     go_wp2
     go_roundg (jj - (kk + 1))
     case measure => omega
     case rel => exact ⟨kk + 1, by omega, by omega, by go_num, BW, ⟨by rw [← HNX.out]; exact HO.out⟩⟩
  ·have hltz : ¬ (kk : Int) < (N : Int) := by omega
   have : kk = N := by omega
   subst this
   have HE := Aside0.mk (upto_end n l)
   rw [← HN.out] at HE
   go_wp2
   go_ret
   exact ⟨_, rfl, by rw [← HE.out]; exact Kd.R_lower HO.out HB.out.size, Below.trans HB.out (BW.out.mono HB.out.size)⟩
theorem tables_zero (w : World) :
  Calls Tryz.prog 116 #[.int .i64 0] w fun e w' => ∃ v : Value, e = .returned v ∧ Kd.R (Kd.int .i64) 3 w' w.heap.size (fun _ => True) v (tabI (tabs 0)) ∧ Below w.heap.size w w' := by
 go_enter Tryz.func116, Tryz.ntmps116
 go_wp2
 go_ret
 exact ⟨_, rfl, Kd.R_of_own (xs := [0, 1]) (own_lit_of w w.heap.size 3 [0, 1] (Nat.le_refl _) (by simp)) (fun _ _ => trivial), (Below.refl _ _).alloc (Nat.le_refl _) _⟩
theorem tables_any : ∀ (n : Nat), n ≤ 4 → ∀ w, Calls Tryz.prog 116 #[.int .i64 (n : Int)] w fun e w' => ∃ v : Value, e = .returned v ∧ Kd.R (Kd.int .i64) 3 w' w.heap.size (fun _ => True) v (tabI (tabs n)) ∧ Below w.heap.size w w'
 | 0, _, w => tables_zero w
 | n + 1, h, w => tables_step n (by omega) (tables_any n (by omega)) w
end Go.Proofs.YtnncjnjfdhbddaaGreat.Z
namespace Go.Proofs.YtnncjnjfdhbddaaGreat.Z
open Go.RowKit Go.Proofs.YtnncjnjfdhbddaaGreatW.PrintWords Go.Proofs.YtnncjnjfdhbddaaGreatW.PrintLast Go.Proofs.YtnncjnjfdhbddaaGreatW.PrintMore
attribute [local go_sem] max2_int min2_int max_two min_two max_three min_three max_four min_four
set_option linter.unusedVariables false
set_option linter.unusedSimpArgs false
def impl_votes_isLeast.l0 : Nat → Int → Int → Int → Int → List Bool → Option (Bool)
 | 0, _, _, _, _, _ => none
 | k + 1, x1, x13, x14, x569000, x569001 => if x14 < x13 then ((impl_has.f x1 x14).bind fun t570 => (if t570 = true then (if 0 ≤ x14 then (if 0 ≤ (Go.bits .andNot .i64 x1 (shl .i64 1 x14)) then (if (Go.bits .andNot .i64 x1 (shl .i64 1 x14)) < (x569001.length : Int) then (if rdOf false x569001 (Go.bits .andNot .i64 x1 (shl .i64 1 x14)) = true then (some false) else (impl_votes_isLeast.l0 k x1 x13 (wrap64 (x14 + 1)) x569000 x569001)) else (none)) else (none)) else (none)) else (impl_votes_isLeast.l0 k x1 x13 (wrap64 (x14 + 1)) x569000 x569001))) else (some true)
def impl_votes_isLeast.f (k : Nat) (a0_0 : Int) (l0_1 : List Bool) (a1 : Int) : Option (Bool) := if 0 ≤ a1 then (if a1 < (l0_1.length : Int) then (if rdOf false l0_1 a1 = true then (impl_votes_isLeast.l0 k a1 a0_0 0 a0_0 l0_1) else (some false)) else (none)) else (none)
set_option maxHeartbeats 8000000 in
set_option maxRecDepth 100000 in
theorem impl_votes_isLeast.calls (k : Nat) (a0_0 : Int) (A0_1 : Option Addr) (c0_1 : Nat) (l0_1 : List Bool) (a1 : Int) (r : Bool) (w : World) (hr0_1 : Kd.C Kd.bool w A0_1 l0_1.length l0_1) (hc0_1 : l0_1.length ≤ c0_1) (h : impl_votes_isLeast.f k a0_0 l0_1 a1 = some r) :
  Calls Tryz.prog 163 #[.agg #[.int .i64 a0_0, .slice A0_1 l0_1.length c0_1], .int .i64 a1] w fun e w' => e = .returned (.bool r) ∧ Below w.heap.size w w' := by
 have hu68 := Tryz.underlying68
 have HR0_1 := Aside0.mk hr0_1
 have HC0_1 := Aside0.mk hc0_1
 clear hr0_1 hc0_1
 have HB := Aside0.mk (Below.refl w.heap.size w)
 have H : (if 0 ≤ a1 then (if a1 < (l0_1.length : Int) then (if rdOf false l0_1 a1 = true then (impl_votes_isLeast.l0 k a1 a0_0 0 a0_0 l0_1) else (some false)) else (none)) else (none)) = some r := h
 clear h
 by_cases c3 : 0 ≤ a1
 ·rw [if_pos c3] at H
  have c3b0 : decide (0 ≤ a1) = true := decide_eq_true c3
  clear c3
  by_cases c4 : a1 < (l0_1.length : Int)
  ·rw [if_pos c4] at H
   have c4b0 : decide (a1 < (l0_1.length : Int)) = true := decide_eq_true c4
   clear c4
   obtain ⟨bq5, hbq5⟩ : ∃ b_ : Bool, b_ = (rdOf false l0_1 a1) := ⟨_, rfl⟩
   replace H : (if bq5 = true then (impl_votes_isLeast.l0 k a1 a0_0 0 a0_0 l0_1) else (some false)) = some r := by rw [← hbq5] at H; exact H
   have Nbq5 := Aside0.mk hbq5
   clear hbq5
   by_cases c6 : bq5 = true
   ·subst c6
    have H1 : (impl_votes_isLeast.l0 k a1 a0_0 0 a0_0 l0_1) = some r := by rw [if_pos rfl] at H; exact H
    clear H
    have H := H1
    clear H1
    have H' := Aside0.mk H
    clear H
    go_enter Tryz.func163, Tryz.ntmps163
    go_wp2_with (first | ((with_reducible refine gate_dst (N := 2) rfl ?_); refine box_event ?hg (N := 2) ?hd (cs := #[.int .i64 a0_0, .slice A0_1 l0_1.length c0_1]) (t := 68) ?hr ?_; (case hd => rfl); (case hg => rfl); (case hr => first | (go_simp; done) | (go_simp; rfl)); intro gb568 hg w7 hbox hb; have n0_ := Aside0.mk (below_step (by repeat (first | (with_reducible first | exact HB.out | apply below_alloc | apply pw_below_drewN | apply below_drew1) | exact HB.out)) hb); have n1_ := Aside0.mk (hbox); have n2_ := Aside0.mk ((by rw [hg]; exact (below_size (by repeat (first | (with_reducible first | exact HB.out | apply below_alloc | apply pw_below_drewN | apply below_drew1) | exact HB.out))) : w.heap.size ≤ gb568)); have n3_ := Aside0.mk ((by rw [hg]; exact (below_size (by repeat (first | (with_reducible first | exact HB.out | apply below_alloc | apply pw_below_drewN | apply below_drew1) | exact HB.out))) : w.heap.size ≤ gb568)); clear HB; have HB := n0_; have BK568 := n1_; have GW568 := n2_; have GE568 := n3_; clear n0_ n1_ n2_ n3_; clear hb hbox hg; have hcz8_0 : w7.cell? ⟨gb568, 0, none⟩ = some (.int .i64 a0_0) := (blk_cell BK568.out 0).trans rfl; have hcz8_1 : w7.cell? ⟨gb568, 1, none⟩ = some (.slice A0_1 l0_1.length c0_1) := (blk_cell BK568.out 1).trans rfl; have hfz8_0 := blk_frozen BK568.out 0; have hfz8_1 := blk_frozen BK568.out 1; have p569 : 0 ≤ (a1 : Int) := of_decide_eq_true (by first | (with_reducible assumption) | assumption); have q569 : a1 < (l0_1.length : Int) := of_decide_eq_true (by first | (with_reducible assumption) | assumption); obtain ⟨ad569, e569, hx569_0⟩ := Kd.at_bool HR0_1.out a1 p569 q569; (try rw [← Nbq5.out] at hx569_0); cases e569; replace hx569_0 := (HB.out.cell (World.block_lt_of_cell? w _ hx569_0)).trans hx569_0; replace p569 := eq_true p569; replace q569 := eq_true q569))
    repeat (go_quiet (first | ((with_reducible refine gate_dst (N := 2) rfl ?_); refine box_event ?hg (N := 2) ?hd (cs := #[.int .i64 a0_0, .slice A0_1 l0_1.length c0_1]) (t := 68) ?hr ?_; (case hd => rfl); (case hg => rfl); (case hr => first | (go_simp; done) | (go_simp; rfl)); intro gb568 hg w7 hbox hb; have n0_ := Aside0.mk (below_step (by repeat (first | (with_reducible first | exact HB.out | apply below_alloc | apply pw_below_drewN | apply below_drew1) | exact HB.out)) hb); have n1_ := Aside0.mk (hbox); have n2_ := Aside0.mk ((by rw [hg]; exact (below_size (by repeat (first | (with_reducible first | exact HB.out | apply below_alloc | apply pw_below_drewN | apply below_drew1) | exact HB.out))) : w.heap.size ≤ gb568)); have n3_ := Aside0.mk ((by rw [hg]; exact (below_size (by repeat (first | (with_reducible first | exact HB.out | apply below_alloc | apply pw_below_drewN | apply below_drew1) | exact HB.out))) : w.heap.size ≤ gb568)); clear HB; have HB := n0_; have BK568 := n1_; have GW568 := n2_; have GE568 := n3_; clear n0_ n1_ n2_ n3_; clear hb hbox hg; have hcz8_0 : w7.cell? ⟨gb568, 0, none⟩ = some (.int .i64 a0_0) := (blk_cell BK568.out 0).trans rfl; have hcz8_1 : w7.cell? ⟨gb568, 1, none⟩ = some (.slice A0_1 l0_1.length c0_1) := (blk_cell BK568.out 1).trans rfl; have hfz8_0 := blk_frozen BK568.out 0; have hfz8_1 := blk_frozen BK568.out 1; have p569 : 0 ≤ (a1 : Int) := of_decide_eq_true (by first | (with_reducible assumption) | assumption); have q569 : a1 < (l0_1.length : Int) := of_decide_eq_true (by first | (with_reducible assumption) | assumption); obtain ⟨ad569, e569, hx569_0⟩ := Kd.at_bool HR0_1.out a1 p569 q569; (try rw [← Nbq5.out] at hx569_0); cases e569; replace hx569_0 := (HB.out.cell (World.block_lt_of_cell? w _ hx569_0)).trans hx569_0; replace p569 := eq_true p569; replace q569 := eq_true q569)); try go_wp2_with (first | ((with_reducible refine gate_dst (N := 2) rfl ?_); refine box_event ?hg (N := 2) ?hd (cs := #[.int .i64 a0_0, .slice A0_1 l0_1.length c0_1]) (t := 68) ?hr ?_; (case hd => rfl); (case hg => rfl); (case hr => first | (go_simp; done) | (go_simp; rfl)); intro gb568 hg w7 hbox hb; have n0_ := Aside0.mk (below_step (by repeat (first | (with_reducible first | exact HB.out | apply below_alloc | apply pw_below_drewN | apply below_drew1) | exact HB.out)) hb); have n1_ := Aside0.mk (hbox); have n2_ := Aside0.mk ((by rw [hg]; exact (below_size (by repeat (first | (with_reducible first | exact HB.out | apply below_alloc | apply pw_below_drewN | apply below_drew1) | exact HB.out))) : w.heap.size ≤ gb568)); have n3_ := Aside0.mk ((by rw [hg]; exact (below_size (by repeat (first | (with_reducible first | exact HB.out | apply below_alloc | apply pw_below_drewN | apply below_drew1) | exact HB.out))) : w.heap.size ≤ gb568)); clear HB; have HB := n0_; have BK568 := n1_; have GW568 := n2_; have GE568 := n3_; clear n0_ n1_ n2_ n3_; clear hb hbox hg; have hcz8_0 : w7.cell? ⟨gb568, 0, none⟩ = some (.int .i64 a0_0) := (blk_cell BK568.out 0).trans rfl; have hcz8_1 : w7.cell? ⟨gb568, 1, none⟩ = some (.slice A0_1 l0_1.length c0_1) := (blk_cell BK568.out 1).trans rfl; have hfz8_0 := blk_frozen BK568.out 0; have hfz8_1 := blk_frozen BK568.out 1; have p569 : 0 ≤ (a1 : Int) := of_decide_eq_true (by first | (with_reducible assumption) | assumption); have q569 : a1 < (l0_1.length : Int) := of_decide_eq_true (by first | (with_reducible assumption) | assumption); obtain ⟨ad569, e569, hx569_0⟩ := Kd.at_bool HR0_1.out a1 p569 q569; (try rw [← Nbq5.out] at hx569_0); cases e569; replace hx569_0 := (HB.out.cell (World.block_lt_of_cell? w _ hx569_0)).trans hx569_0; replace p569 := eq_true p569; replace q569 := eq_true q569)))
    go_loopg [14] k (fun kq v14 w' => ∃ (x14_1 : Int), v14 = .int .i64 x14_1 ∧ Aside0 (impl_votes_isLeast.l0 kq a1 a0_0 x14_1 a0_0 l0_1 = some r) ∧ Aside0 (kq ≤ k) ∧ Aside0 (w'.heap[gb568]? = some (.cells #[.int .i64 a0_0, (.slice (some ad569) l0_1.length c0_1)] 68 (0, 0))) ∧ Aside0 (Below w.heap.size w w'))
    case atStart => exact ⟨(0), (by first | rfl | (simp; done) | (simp [*]; done)), H', ⟨Nat.le_refl _⟩, ⟨by (with_reducible repeat (first | refine blk_drewN ?_ _ | refine blk_drew ?_ | refine blk_alloc ?_ _)); exact BK568.out⟩, ⟨by repeat (first | (with_reducible first | exact HB.out | apply below_alloc | apply pw_below_drewN | apply below_drew1 | refine below_set ?_ GE568.out) | exact HB.out)⟩⟩
    case round =>
     clear H'
     try clear c1
     try clear p2
     try clear c3
     try clear c3b0
     try clear c4
     try clear c4b0
     try clear p5
     try clear q5
     try clear hx5
     try clear c6
     try clear hcz8_0
     try clear hcz8_1
     try clear hfz8_0
     try clear hfz8_1
     try clear hx569_0
     try clear p569
     try clear q569
     obtain ⟨x14_1, rfl, HA, HK1, BK568, HB⟩ := hrel
     cases gk with
     | zero => exact absurd HA.out (by simp [impl_votes_isLeast.l0])
     | succ k1 =>
      have H := HA.out
      clear HA
      simp only [impl_votes_isLeast.l0] at H
      by_cases c9 : x14_1 < a0_0
      ·rw [if_pos c9] at H
       have c9b0 : decide (x14_1 < a0_0) = true := decide_eq_true c9
       clear c9
       replace H := Option.bind_eq_some_iff.mp H
       obtain ⟨t570, A100, H⟩ := H
       replace H : (if t570 = true then (if 0 ≤ x14_1 then (if 0 ≤ (Go.bits .andNot .i64 a1 (shl .i64 1 x14_1)) then (if (Go.bits .andNot .i64 a1 (shl .i64 1 x14_1)) < (l0_1.length : Int) then (if rdOf false l0_1 (Go.bits .andNot .i64 a1 (shl .i64 1 x14_1)) = true then (some false) else (impl_votes_isLeast.l0 k1 a1 a0_0 (wrap64 (x14_1 + 1)) a0_0 l0_1)) else (none)) else (none)) else (none)) else (impl_votes_isLeast.l0 k1 a1 a0_0 (wrap64 (x14_1 + 1)) a0_0 l0_1)) = some r := H
       have A10 := Aside0.mk A100
       clear A100
       by_cases c11 : t570 = true
       ·subst c11
        have H1 : (if 0 ≤ x14_1 then (if 0 ≤ (Go.bits .andNot .i64 a1 (shl .i64 1 x14_1)) then (if (Go.bits .andNot .i64 a1 (shl .i64 1 x14_1)) < (l0_1.length : Int) then (if rdOf false l0_1 (Go.bits .andNot .i64 a1 (shl .i64 1 x14_1)) = true then (some false) else (impl_votes_isLeast.l0 k1 a1 a0_0 (wrap64 (x14_1 + 1)) a0_0 l0_1)) else (none)) else (none)) else (none)) = some r := by rw [if_pos rfl] at H; exact H
        clear H
        have H := H1
        clear H1
        by_cases c12 : 0 ≤ x14_1
        ·rw [if_pos c12] at H
         have c12b0 := eq_true c12
         have c12b1 : decide (0 ≤ x14_1) = true := decide_eq_true c12
         clear c12
         obtain ⟨ji13, hji13⟩ : ∃ j_ : Int, (shl .i64 1 x14_1) = j_ := ⟨_, rfl⟩
         replace H : (if 0 ≤ (Go.bits .andNot .i64 a1 (ji13)) then (if (Go.bits .andNot .i64 a1 (ji13)) < (l0_1.length : Int) then (if rdOf false l0_1 (Go.bits .andNot .i64 a1 (ji13)) = true then (some false) else (impl_votes_isLeast.l0 k1 a1 a0_0 (wrap64 (x14_1 + 1)) a0_0 l0_1)) else (none)) else (none)) = some r := by first | (rw [hji13] at H; exact H) | (simp only [hji13] at H ⊢; exact H)
         (try rw [hji13] at A10)
         have hji13_ : (IntKind.i64.wrap (1 * 2 ^ min x14_1.toNat 64)) = ji13 := hji13
         have hji13z : x14_1 ≤ 64 → (IntKind.i64.wrap (1 * 2 ^ x14_1.toNat)) = ji13 := shl_small hji13
         have hji13u : (IntKind.i64.wrap (2 ^ min x14_1.toNat 64)) = ji13 := by have h_ := hji13_; rw [Int.one_mul] at h_; exact h_
         have hji13v : x14_1 ≤ 64 → (IntKind.i64.wrap (2 ^ x14_1.toNat)) = ji13 := fun hle_ => by have h_ := hji13z hle_; rw [Int.one_mul] at h_; exact h_
         have hji13y : (wrap64 (1 * 2 ^ min x14_1.toNat 64)) = ji13 := (i64_w _).symm.trans hji13_
         have hji13x : x14_1 ≤ 64 → (wrap64 (1 * 2 ^ x14_1.toNat)) = ji13 := fun h_ => (i64_w _).symm.trans (hji13z h_)
         by_cases c14 : 0 ≤ (Go.bits .andNot .i64 a1 (ji13))
         ·rw [if_pos c14] at H
          have c14b0 : decide (0 ≤ (Go.bits .andNot .i64 a1 (ji13))) = true := decide_eq_true c14
          clear c14
          by_cases c15 : (Go.bits .andNot .i64 a1 (ji13)) < (l0_1.length : Int)
          ·rw [if_pos c15] at H
           have c15b0 : decide ((Go.bits .andNot .i64 a1 (ji13)) < (l0_1.length : Int)) = true := decide_eq_true c15
           clear c15
           obtain ⟨bq16, hbq16⟩ : ∃ b_ : Bool, b_ = (rdOf false l0_1 (Go.bits .andNot .i64 a1 (ji13))) := ⟨_, rfl⟩
           replace H : (if bq16 = true then (some false) else (impl_votes_isLeast.l0 k1 a1 a0_0 (wrap64 (x14_1 + 1)) a0_0 l0_1)) = some r := by rw [← hbq16] at H; exact H
           have Nbq16 := Aside0.mk hbq16
           clear hbq16
           by_cases c17 : bq16 = true
           ·subst c17
            have H1 : (some false) = some r := by rw [if_pos rfl] at H; exact H
            clear H
            have H := H1
            clear H1
            obtain rfl := Option.some.inj H
            go_wp2_with (first | (go_at_call 118; (with_reducible refine (impl_has.calls a1 x14_1 true _ A10.out).mono ?_); rintro e w' ⟨rfl, ⟨nd, rfl⟩⟩; (try first | exact ⟨rfl, _, World.drewN_drewN _ _ _⟩ | exact ⟨rfl, _, Eq.trans (World.drewN_drewN _ _ _) (congrArg (World.drewN _) (Nat.add_assoc _ _ _))⟩); have hcz18_0 : wr.cell? ⟨gb568, 0, none⟩ = some (.int .i64 a0_0) := (blk_cell BK568.out 0).trans rfl; have hcz18_1 : wr.cell? ⟨gb568, 1, none⟩ = some (.slice (some ad569) l0_1.length c0_1) := (blk_cell BK568.out 1).trans rfl; have hfz18_0 := blk_frozen BK568.out 0; have hfz18_1 := blk_frozen BK568.out 1; have p571 : 0 ≤ ((Go.bits .andNot .i64 a1 (ji13)) : Int) := of_decide_eq_true (by first | (with_reducible assumption) | assumption); have q571 : (Go.bits .andNot .i64 a1 (ji13)) < (l0_1.length : Int) := of_decide_eq_true (by first | (with_reducible assumption) | assumption); obtain ⟨ad571, e571, hx571_0⟩ := Kd.at_bool HR0_1.out (Go.bits .andNot .i64 a1 (ji13)) p571 q571; (try rw [← Nbq5.out] at hx571_0); (try rw [← Nbq16.out] at hx571_0); obtain rfl : ad569 = ad571 := (by injection e571); replace hx571_0 := (HB.out.cell (World.block_lt_of_cell? w _ hx571_0)).trans hx571_0; replace p571 := eq_true p571; replace q571 := eq_true q571))
            repeat (go_quiet (first | (go_at_call 118; (with_reducible refine (impl_has.calls a1 x14_1 true _ A10.out).mono ?_); rintro e w' ⟨rfl, ⟨nd, rfl⟩⟩; (try first | exact ⟨rfl, _, World.drewN_drewN _ _ _⟩ | exact ⟨rfl, _, Eq.trans (World.drewN_drewN _ _ _) (congrArg (World.drewN _) (Nat.add_assoc _ _ _))⟩); have hcz18_0 : wr.cell? ⟨gb568, 0, none⟩ = some (.int .i64 a0_0) := (blk_cell BK568.out 0).trans rfl; have hcz18_1 : wr.cell? ⟨gb568, 1, none⟩ = some (.slice (some ad569) l0_1.length c0_1) := (blk_cell BK568.out 1).trans rfl; have hfz18_0 := blk_frozen BK568.out 0; have hfz18_1 := blk_frozen BK568.out 1; have p571 : 0 ≤ ((Go.bits .andNot .i64 a1 (ji13)) : Int) := of_decide_eq_true (by first | (with_reducible assumption) | assumption); have q571 : (Go.bits .andNot .i64 a1 (ji13)) < (l0_1.length : Int) := of_decide_eq_true (by first | (with_reducible assumption) | assumption); obtain ⟨ad571, e571, hx571_0⟩ := Kd.at_bool HR0_1.out (Go.bits .andNot .i64 a1 (ji13)) p571 q571; (try rw [← Nbq5.out] at hx571_0); (try rw [← Nbq16.out] at hx571_0); obtain rfl : ad569 = ad571 := (by injection e571); replace hx571_0 := (HB.out.cell (World.block_lt_of_cell? w _ hx571_0)).trans hx571_0; replace p571 := eq_true p571; replace q571 := eq_true q571)); try go_wp2_with (first | (go_at_call 118; (with_reducible refine (impl_has.calls a1 x14_1 true _ A10.out).mono ?_); rintro e w' ⟨rfl, ⟨nd, rfl⟩⟩; (try first | exact ⟨rfl, _, World.drewN_drewN _ _ _⟩ | exact ⟨rfl, _, Eq.trans (World.drewN_drewN _ _ _) (congrArg (World.drewN _) (Nat.add_assoc _ _ _))⟩); have hcz18_0 : wr.cell? ⟨gb568, 0, none⟩ = some (.int .i64 a0_0) := (blk_cell BK568.out 0).trans rfl; have hcz18_1 : wr.cell? ⟨gb568, 1, none⟩ = some (.slice (some ad569) l0_1.length c0_1) := (blk_cell BK568.out 1).trans rfl; have hfz18_0 := blk_frozen BK568.out 0; have hfz18_1 := blk_frozen BK568.out 1; have p571 : 0 ≤ ((Go.bits .andNot .i64 a1 (ji13)) : Int) := of_decide_eq_true (by first | (with_reducible assumption) | assumption); have q571 : (Go.bits .andNot .i64 a1 (ji13)) < (l0_1.length : Int) := of_decide_eq_true (by first | (with_reducible assumption) | assumption); obtain ⟨ad571, e571, hx571_0⟩ := Kd.at_bool HR0_1.out (Go.bits .andNot .i64 a1 (ji13)) p571 q571; (try rw [← Nbq5.out] at hx571_0); (try rw [← Nbq16.out] at hx571_0); obtain rfl : ad569 = ad571 := (by injection e571); replace hx571_0 := (HB.out.cell (World.block_lt_of_cell? w _ hx571_0)).trans hx571_0; replace p571 := eq_true p571; replace q571 := eq_true q571)))
            go_ret
            exact ⟨by first | rfl | (simp [errW_none, errW_some] <;> rfl) | (simp only [← hji13]; first | rfl | (simp [errW_none, errW_some] <;> rfl)) | (simp [*, errW_none, errW_some] <;> rfl), by repeat (first | (with_reducible first | exact HB.out | apply below_alloc | apply pw_below_drewN | apply below_drew1 | refine below_set ?_ GE568.out) | exact HB.out)⟩
           ·replace c17 := Bool.eq_false_iff.mpr c17
            subst c17
            have H1 : (impl_votes_isLeast.l0 k1 a1 a0_0 (wrap64 (x14_1 + 1)) a0_0 l0_1) = some r := by rw [if_neg (show ¬ (false = true) by decide)] at H; exact H
            clear H
            have H := H1
            clear H1
            have H' := Aside0.mk H
            clear H
            go_wp2_with (first | (go_at_call 118; (with_reducible refine (impl_has.calls a1 x14_1 true _ A10.out).mono ?_); rintro e w' ⟨rfl, ⟨nd, rfl⟩⟩; (try first | exact ⟨rfl, _, World.drewN_drewN _ _ _⟩ | exact ⟨rfl, _, Eq.trans (World.drewN_drewN _ _ _) (congrArg (World.drewN _) (Nat.add_assoc _ _ _))⟩); have hcz19_0 : wr.cell? ⟨gb568, 0, none⟩ = some (.int .i64 a0_0) := (blk_cell BK568.out 0).trans rfl; have hcz19_1 : wr.cell? ⟨gb568, 1, none⟩ = some (.slice (some ad569) l0_1.length c0_1) := (blk_cell BK568.out 1).trans rfl; have hfz19_0 := blk_frozen BK568.out 0; have hfz19_1 := blk_frozen BK568.out 1; have p571 : 0 ≤ ((Go.bits .andNot .i64 a1 (ji13)) : Int) := of_decide_eq_true (by first | (with_reducible assumption) | assumption); have q571 : (Go.bits .andNot .i64 a1 (ji13)) < (l0_1.length : Int) := of_decide_eq_true (by first | (with_reducible assumption) | assumption); obtain ⟨ad571, e571, hx571_0⟩ := Kd.at_bool HR0_1.out (Go.bits .andNot .i64 a1 (ji13)) p571 q571; (try rw [← Nbq5.out] at hx571_0); (try rw [← Nbq16.out] at hx571_0); obtain rfl : ad569 = ad571 := (by injection e571); replace hx571_0 := (HB.out.cell (World.block_lt_of_cell? w _ hx571_0)).trans hx571_0; replace p571 := eq_true p571; replace q571 := eq_true q571))
            repeat (go_quiet (first | (go_at_call 118; (with_reducible refine (impl_has.calls a1 x14_1 true _ A10.out).mono ?_); rintro e w' ⟨rfl, ⟨nd, rfl⟩⟩; (try first | exact ⟨rfl, _, World.drewN_drewN _ _ _⟩ | exact ⟨rfl, _, Eq.trans (World.drewN_drewN _ _ _) (congrArg (World.drewN _) (Nat.add_assoc _ _ _))⟩); have hcz19_0 : wr.cell? ⟨gb568, 0, none⟩ = some (.int .i64 a0_0) := (blk_cell BK568.out 0).trans rfl; have hcz19_1 : wr.cell? ⟨gb568, 1, none⟩ = some (.slice (some ad569) l0_1.length c0_1) := (blk_cell BK568.out 1).trans rfl; have hfz19_0 := blk_frozen BK568.out 0; have hfz19_1 := blk_frozen BK568.out 1; have p571 : 0 ≤ ((Go.bits .andNot .i64 a1 (ji13)) : Int) := of_decide_eq_true (by first | (with_reducible assumption) | assumption); have q571 : (Go.bits .andNot .i64 a1 (ji13)) < (l0_1.length : Int) := of_decide_eq_true (by first | (with_reducible assumption) | assumption); obtain ⟨ad571, e571, hx571_0⟩ := Kd.at_bool HR0_1.out (Go.bits .andNot .i64 a1 (ji13)) p571 q571; (try rw [← Nbq5.out] at hx571_0); (try rw [← Nbq16.out] at hx571_0); obtain rfl : ad569 = ad571 := (by injection e571); replace hx571_0 := (HB.out.cell (World.block_lt_of_cell? w _ hx571_0)).trans hx571_0; replace p571 := eq_true p571; replace q571 := eq_true q571)); try go_wp2_with (first | (go_at_call 118; (with_reducible refine (impl_has.calls a1 x14_1 true _ A10.out).mono ?_); rintro e w' ⟨rfl, ⟨nd, rfl⟩⟩; (try first | exact ⟨rfl, _, World.drewN_drewN _ _ _⟩ | exact ⟨rfl, _, Eq.trans (World.drewN_drewN _ _ _) (congrArg (World.drewN _) (Nat.add_assoc _ _ _))⟩); have hcz19_0 : wr.cell? ⟨gb568, 0, none⟩ = some (.int .i64 a0_0) := (blk_cell BK568.out 0).trans rfl; have hcz19_1 : wr.cell? ⟨gb568, 1, none⟩ = some (.slice (some ad569) l0_1.length c0_1) := (blk_cell BK568.out 1).trans rfl; have hfz19_0 := blk_frozen BK568.out 0; have hfz19_1 := blk_frozen BK568.out 1; have p571 : 0 ≤ ((Go.bits .andNot .i64 a1 (ji13)) : Int) := of_decide_eq_true (by first | (with_reducible assumption) | assumption); have q571 : (Go.bits .andNot .i64 a1 (ji13)) < (l0_1.length : Int) := of_decide_eq_true (by first | (with_reducible assumption) | assumption); obtain ⟨ad571, e571, hx571_0⟩ := Kd.at_bool HR0_1.out (Go.bits .andNot .i64 a1 (ji13)) p571 q571; (try rw [← Nbq5.out] at hx571_0); (try rw [← Nbq16.out] at hx571_0); obtain rfl : ad569 = ad571 := (by injection e571); replace hx571_0 := (HB.out.cell (World.block_lt_of_cell? w _ hx571_0)).trans hx571_0; replace p571 := eq_true p571; replace q571 := eq_true q571)))
            go_roundg k1
            case measure => have := HK1.out; omega
            case rel => exact ⟨(wrap64 (x14_1 + 1)), (by first | rfl | (simp; done) | (simp [*]; done)), H', ⟨by have := HK1.out; omega⟩, ⟨by (with_reducible repeat (first | refine blk_drewN ?_ _ | refine blk_drew ?_ | refine blk_alloc ?_ _)); exact BK568.out⟩, ⟨by repeat (first | (with_reducible first | exact HB.out | apply below_alloc | apply pw_below_drewN | apply below_drew1 | refine below_set ?_ GE568.out) | exact HB.out)⟩⟩
          ·rw [if_neg c15] at H
           exact absurd H (by simp)
         ·rw [if_neg c14] at H
          exact absurd H (by simp)
        ·rw [if_neg c12] at H
         exact absurd H (by simp)
       ·replace c11 := Bool.eq_false_iff.mpr c11
        subst c11
        have H1 : (impl_votes_isLeast.l0 k1 a1 a0_0 (wrap64 (x14_1 + 1)) a0_0 l0_1) = some r := by rw [if_neg (show ¬ (false = true) by decide)] at H; exact H
        clear H
        have H := H1
        clear H1
        have H' := Aside0.mk H
        clear H
        go_wp2_with (first | (go_at_call 118; (with_reducible refine (impl_has.calls a1 x14_1 false _ A10.out).mono ?_); rintro e w' ⟨rfl, ⟨nd, rfl⟩⟩; (try first | exact ⟨rfl, _, World.drewN_drewN _ _ _⟩ | exact ⟨rfl, _, Eq.trans (World.drewN_drewN _ _ _) (congrArg (World.drewN _) (Nat.add_assoc _ _ _))⟩)))
        repeat (go_quiet (first | (go_at_call 118; (with_reducible refine (impl_has.calls a1 x14_1 false _ A10.out).mono ?_); rintro e w' ⟨rfl, ⟨nd, rfl⟩⟩; (try first | exact ⟨rfl, _, World.drewN_drewN _ _ _⟩ | exact ⟨rfl, _, Eq.trans (World.drewN_drewN _ _ _) (congrArg (World.drewN _) (Nat.add_assoc _ _ _))⟩))); try go_wp2_with (first | (go_at_call 118; (with_reducible refine (impl_has.calls a1 x14_1 false _ A10.out).mono ?_); rintro e w' ⟨rfl, ⟨nd, rfl⟩⟩; (try first | exact ⟨rfl, _, World.drewN_drewN _ _ _⟩ | exact ⟨rfl, _, Eq.trans (World.drewN_drewN _ _ _) (congrArg (World.drewN _) (Nat.add_assoc _ _ _))⟩))))
        go_roundg k1
        case measure => have := HK1.out; omega
        case rel => exact ⟨(wrap64 (x14_1 + 1)), (by first | rfl | (simp; done) | (simp [*]; done)), H', ⟨by have := HK1.out; omega⟩, ⟨by (with_reducible repeat (first | refine blk_drewN ?_ _ | refine blk_drew ?_ | refine blk_alloc ?_ _)); exact BK568.out⟩, ⟨by repeat (first | (with_reducible first | exact HB.out | apply below_alloc | apply pw_below_drewN | apply below_drew1 | refine below_set ?_ GE568.out) | exact HB.out)⟩⟩
      ·rw [if_neg c9] at H
       have c9b0 : decide (x14_1 < a0_0) = false := decide_eq_false c9
       clear c9
       obtain rfl := Option.some.inj H
       go_wp2
       repeat (go_quiet (fail); try go_wp2)
       go_ret
       exact ⟨by first | rfl | (simp [errW_none, errW_some] <;> rfl) | (simp [*, errW_none, errW_some] <;> rfl), by repeat (first | (with_reducible first | exact HB.out | apply below_alloc | apply pw_below_drewN | apply below_drew1 | refine below_set ?_ GE568.out) | exact HB.out)⟩
   ·replace c6 := Bool.eq_false_iff.mpr c6
    subst c6
    have H1 : (some false) = some r := by rw [if_neg (show ¬ (false = true) by decide)] at H; exact H
    clear H
    have H := H1
    clear H1
    obtain rfl := Option.some.inj H
    go_enter Tryz.func163, Tryz.ntmps163
    go_wp2_with (first | ((with_reducible refine gate_dst (N := 2) rfl ?_); refine box_event ?hg (N := 2) ?hd (cs := #[.int .i64 a0_0, .slice A0_1 l0_1.length c0_1]) (t := 68) ?hr ?_; (case hd => rfl); (case hg => rfl); (case hr => first | (go_simp; done) | (go_simp; rfl)); intro gb568 hg w20 hbox hb; have n0_ := Aside0.mk (below_step (by repeat (first | (with_reducible first | exact HB.out | apply below_alloc | apply pw_below_drewN | apply below_drew1) | exact HB.out)) hb); have n1_ := Aside0.mk (hbox); have n2_ := Aside0.mk ((by rw [hg]; exact (below_size (by repeat (first | (with_reducible first | exact HB.out | apply below_alloc | apply pw_below_drewN | apply below_drew1) | exact HB.out))) : w.heap.size ≤ gb568)); have n3_ := Aside0.mk ((by rw [hg]; exact (below_size (by repeat (first | (with_reducible first | exact HB.out | apply below_alloc | apply pw_below_drewN | apply below_drew1) | exact HB.out))) : w.heap.size ≤ gb568)); clear HB; have HB := n0_; have BK568 := n1_; have GW568 := n2_; have GE568 := n3_; clear n0_ n1_ n2_ n3_; clear hb hbox hg; have hcz21_0 : w20.cell? ⟨gb568, 0, none⟩ = some (.int .i64 a0_0) := (blk_cell BK568.out 0).trans rfl; have hcz21_1 : w20.cell? ⟨gb568, 1, none⟩ = some (.slice A0_1 l0_1.length c0_1) := (blk_cell BK568.out 1).trans rfl; have hfz21_0 := blk_frozen BK568.out 0; have hfz21_1 := blk_frozen BK568.out 1; have p569 : 0 ≤ (a1 : Int) := of_decide_eq_true (by first | (with_reducible assumption) | assumption); have q569 : a1 < (l0_1.length : Int) := of_decide_eq_true (by first | (with_reducible assumption) | assumption); obtain ⟨ad569, e569, hx569_0⟩ := Kd.at_bool HR0_1.out a1 p569 q569; (try rw [← Nbq5.out] at hx569_0); cases e569; replace hx569_0 := (HB.out.cell (World.block_lt_of_cell? w _ hx569_0)).trans hx569_0; replace p569 := eq_true p569; replace q569 := eq_true q569))
    repeat (go_quiet (first | ((with_reducible refine gate_dst (N := 2) rfl ?_); refine box_event ?hg (N := 2) ?hd (cs := #[.int .i64 a0_0, .slice A0_1 l0_1.length c0_1]) (t := 68) ?hr ?_; (case hd => rfl); (case hg => rfl); (case hr => first | (go_simp; done) | (go_simp; rfl)); intro gb568 hg w20 hbox hb; have n0_ := Aside0.mk (below_step (by repeat (first | (with_reducible first | exact HB.out | apply below_alloc | apply pw_below_drewN | apply below_drew1) | exact HB.out)) hb); have n1_ := Aside0.mk (hbox); have n2_ := Aside0.mk ((by rw [hg]; exact (below_size (by repeat (first | (with_reducible first | exact HB.out | apply below_alloc | apply pw_below_drewN | apply below_drew1) | exact HB.out))) : w.heap.size ≤ gb568)); have n3_ := Aside0.mk ((by rw [hg]; exact (below_size (by repeat (first | (with_reducible first | exact HB.out | apply below_alloc | apply pw_below_drewN | apply below_drew1) | exact HB.out))) : w.heap.size ≤ gb568)); clear HB; have HB := n0_; have BK568 := n1_; have GW568 := n2_; have GE568 := n3_; clear n0_ n1_ n2_ n3_; clear hb hbox hg; have hcz21_0 : w20.cell? ⟨gb568, 0, none⟩ = some (.int .i64 a0_0) := (blk_cell BK568.out 0).trans rfl; have hcz21_1 : w20.cell? ⟨gb568, 1, none⟩ = some (.slice A0_1 l0_1.length c0_1) := (blk_cell BK568.out 1).trans rfl; have hfz21_0 := blk_frozen BK568.out 0; have hfz21_1 := blk_frozen BK568.out 1; have p569 : 0 ≤ (a1 : Int) := of_decide_eq_true (by first | (with_reducible assumption) | assumption); have q569 : a1 < (l0_1.length : Int) := of_decide_eq_true (by first | (with_reducible assumption) | assumption); obtain ⟨ad569, e569, hx569_0⟩ := Kd.at_bool HR0_1.out a1 p569 q569; (try rw [← Nbq5.out] at hx569_0); cases e569; replace hx569_0 := (HB.out.cell (World.block_lt_of_cell? w _ hx569_0)).trans hx569_0; replace p569 := eq_true p569; replace q569 := eq_true q569)); try go_wp2_with (first | ((with_reducible refine gate_dst (N := 2) rfl ?_); refine box_event ?hg (N := 2) ?hd (cs := #[.int .i64 a0_0, .slice A0_1 l0_1.length c0_1]) (t := 68) ?hr ?_; (case hd => rfl); (case hg => rfl); (case hr => first | (go_simp; done) | (go_simp; rfl)); intro gb568 hg w20 hbox hb; have n0_ := Aside0.mk (below_step (by repeat (first | (with_reducible first | exact HB.out | apply below_alloc | apply pw_below_drewN | apply below_drew1) | exact HB.out)) hb); have n1_ := Aside0.mk (hbox); have n2_ := Aside0.mk ((by rw [hg]; exact (below_size (by repeat (first | (with_reducible first | exact HB.out | apply below_alloc | apply pw_below_drewN | apply below_drew1) | exact HB.out))) : w.heap.size ≤ gb568)); have n3_ := Aside0.mk ((by rw [hg]; exact (below_size (by repeat (first | (with_reducible first | exact HB.out | apply below_alloc | apply pw_below_drewN | apply below_drew1) | exact HB.out))) : w.heap.size ≤ gb568)); clear HB; have HB := n0_; have BK568 := n1_; have GW568 := n2_; have GE568 := n3_; clear n0_ n1_ n2_ n3_; clear hb hbox hg; have hcz21_0 : w20.cell? ⟨gb568, 0, none⟩ = some (.int .i64 a0_0) := (blk_cell BK568.out 0).trans rfl; have hcz21_1 : w20.cell? ⟨gb568, 1, none⟩ = some (.slice A0_1 l0_1.length c0_1) := (blk_cell BK568.out 1).trans rfl; have hfz21_0 := blk_frozen BK568.out 0; have hfz21_1 := blk_frozen BK568.out 1; have p569 : 0 ≤ (a1 : Int) := of_decide_eq_true (by first | (with_reducible assumption) | assumption); have q569 : a1 < (l0_1.length : Int) := of_decide_eq_true (by first | (with_reducible assumption) | assumption); obtain ⟨ad569, e569, hx569_0⟩ := Kd.at_bool HR0_1.out a1 p569 q569; (try rw [← Nbq5.out] at hx569_0); cases e569; replace hx569_0 := (HB.out.cell (World.block_lt_of_cell? w _ hx569_0)).trans hx569_0; replace p569 := eq_true p569; replace q569 := eq_true q569)))
    go_ret
    exact ⟨by first | rfl | (simp [errW_none, errW_some] <;> rfl) | (simp [*, errW_none, errW_some] <;> rfl), by repeat (first | (with_reducible first | exact HB.out | apply below_alloc | apply pw_below_drewN | apply below_drew1 | refine below_set ?_ GE568.out) | exact HB.out)⟩
  ·rw [if_neg c4] at H
   exact absurd H (by simp)
 ·rw [if_neg c3] at H
  exact absurd H (by simp)
end Go.Proofs.YtnncjnjfdhbddaaGreat.Z
namespace Go.Proofs.YtnncjnjfdhbddaaGreat.Z
open Go.RowKit Go.Proofs.YtnncjnjfdhbddaaGreatW.PrintWords Go.Proofs.YtnncjnjfdhbddaaGreatW.PrintLast Go.Proofs.YtnncjnjfdhbddaaGreatW.PrintMore
attribute [local go_sem] max2_int min2_int max_two min_two max_three min_three max_four min_four
set_option linter.unusedVariables false
set_option linter.unusedSimpArgs false
def leastB (n : Nat) (wins : List Bool) (m : Nat) : Bool := wins.getD m false && (List.range n).all fun i => !(m.testBit i && wins.getD (m - 2 ^ i) false)
def leastFrom (n : Nat) (wins : List Bool) (m i : Nat) : Bool := ((List.range n).drop i).all fun i => !(m.testBit i && wins.getD (m - 2 ^ i) false)
theorem leastFrom_step (n : Nat) (wins : List Bool) (m i : Nat) (h : i < n) : leastFrom n wins m i = (!(m.testBit i && wins.getD (m - 2 ^ i) false) && leastFrom n wins m (i + 1)) := by
 unfold leastFrom
 rw [List.drop_eq_getElem_cons (by simpa using h)]
 simp
theorem leastFrom_end (n : Nat) (wins : List Bool) (m : Nat) : leastFrom n wins m n = true := by
 rw [leastFrom, List.drop_of_length_le (by simp)]
 rfl
theorem isLeast_l0 (n : Nat) (hn : n ≤ 9) (a0 : Int) (wins : List Bool) (hw : wins.length = 2 ^ n) (m : Nat) (hm : m < 2 ^ n) : ∀ (d k i : Nat), n - i = d → i ≤ n → d < k →
  impl_votes_isLeast.l0 k (m : Int) (n : Int) (i : Int) a0 wins = some (leastFrom n wins m i) := by
 have h512 := pow_le9 hn
 intro d
 induction d with
 | zero =>
  intro k i hd hi hk
  obtain ⟨k, rfl⟩ : ∃ m, k = m + 1 := ⟨k - 1, by omega⟩
  obtain rfl : i = n := by omega
  simp only [impl_votes_isLeast.l0]
  rw [if_neg (by omega), leastFrom_end]
 | succ d ih =>
  intro k i hd hi hk
  obtain ⟨k, rfl⟩ : ∃ m, k = m + 1 := ⟨k - 1, by omega⟩
  have hlt : i < n := by omega
  simp only [impl_votes_isLeast.l0]
  have ih1 := ih k (i + 1) (by omega) (by omega) (by omega)
  have e1 : wrap64 ((i : Int) + 1) = ((i + 1 : Nat) : Int) := by unfold wrap64; omega
  rw [if_pos (by omega), has_eq m i (by omega) (by omega), leastFrom_step n wins m i hlt, e1, ih1]
  simp only [Option.bind_some]
  cases hb : m.testBit i with
  | false => simp
  | true =>
   have hle : m - 2 ^ i ≤ m := Nat.sub_le _ _
   generalize hx : m - 2 ^ i = x at hle
   have hce := clear_eq m i (by omega) (by omega) hb
   rw [hx] at hce
   rw [if_pos rfl, if_pos (by omega), hce, if_pos (by omega), if_pos (by omega)]
   have e2 : rdOf false wins (x : Int) = wins.getD x false := by simp [rdOf]
   rw [e2]
   cases wins.getD x false <;> simp
theorem isLeast_f (n : Nat) (hn : n ≤ 9) (wins : List Bool) (hw : wins.length = 2 ^ n) (m : Nat) (hm : m < 2 ^ n) : impl_votes_isLeast.f (n + 1) (n : Int) wins (m : Int) = some (leastB n wins m) := by
 unfold impl_votes_isLeast.f leastB
 rw [if_pos (by omega), if_pos (by omega)]
 have e2 : rdOf false wins (m : Int) = wins.getD m false := by simp [rdOf]
 rw [e2]
 cases wins.getD m false with
 | false => simp
 | true =>
  rw [if_pos rfl]
  have := isLeast_l0 n hn (n : Int) wins hw m hm n (n + 1) 0 (by omega) (by omega) (by omega)
  simp only [Bool.true_and]
  exact this
end Go.Proofs.YtnncjnjfdhbddaaGreat.Z
namespace Go.Proofs.YtnncjnjfdhbddaaGreat.Z
open Go.RowKit Go.Proofs.YtnncjnjfdhbddaaGreatW.PrintWords Go.Proofs.YtnncjnjfdhbddaaGreatW.PrintLast Go.Proofs.YtnncjnjfdhbddaaGreatW.PrintMore
attribute [local go_sem] max2_int min2_int max_two min_two max_three min_three max_four min_four
set_option linter.unusedVariables false
set_option linter.unusedSimpArgs false
def leastSets (n : Nat) (wins : List Bool) : List (List Int) := sortC cmpL (partS (leastB n wins) wins.length)
def vOk (a0 : Int) (wins : List Bool) : Bool := decide (0 ≤ a0 ∧ a0 ≤ 9 ∧ wins.length = 2 ^ a0.toNat)
set_option maxHeartbeats 1000000 in
theorem least_any (n : Nat) (hn : n ≤ 9) (A : Option Addr) (c : Nat) (wins : List Bool) (hw : wins.length = 2 ^ n) (w : World) (hr : Kd.C Kd.bool w A wins.length wins) (hc : wins.length ≤ c) :
  Calls Tryz.prog 146 #[.agg #[.int .i64 (n : Int), .slice A wins.length c]] w fun e w' => ∃ v : Value, e = .returned v ∧ Kd.S (Kd.slice 3 (Kd.int .i64)) 36 w' w.heap.size (fun _ => True) v (leastSets n wins) ∧ Below w.heap.size w w' := by
 have hu68 := Tryz.underlying68
 have eg : ∀ args w, (callFunc 163 args).run Tryz.prog w = .ok (.enter 163 args) w := enters_of Tryz.func163 (by kernel_rfl) rfl
 have h512 := pow_le9 hn
 have hS := fun (W : World) (hb : Below w.heap.size w W) => sets_any (sortC cmpL) sortsSets_ok (n : Int) A c wins (by omega) (leastB n wins) 163 #[.agg #[.int .i64 (n : Int), .slice A wins.length c]] #[] W eg
  (fun W' m hm hb' => impl_votes_isLeast.calls (n + 1) (n : Int) A c wins (m : Int) _ W' (Kd.C_below (Kd.C_below hr hb) hb') hc (isLeast_f n hn wins hw m (by omega)))
 change ∀ W (hb : Below w.heap.size w W), Calls Tryz.prog 98 _ W fun e w' => ∃ v : Value, e = .returned v ∧ Kd.S (Kd.slice 3 (Kd.int .i64)) 36 w' W.heap.size (fun _ => True) v (leastSets n wins) ∧ Below W.heap.size W w' at hS
 have HS := Aside0.mk hS
 clear hS hr hc eg
 generalize leastSets n wins = ls at HS ⊢
 clear hw
 generalize wins.length = N at *
 go_enter Tryz.func146, Tryz.ntmps146
 go_wp2_with (go_at_call 98; refine (HS.out _ ((Below.refl _ _).alloc (Nat.le_refl _) _)).mono ?_; rintro e w1 ⟨v1, rfl, ho, hb⟩; have HO1 := Aside0.mk ho; have HB1 := Aside0.mk hb; clear ho hb)
 go_ret
 exact ⟨_, rfl, Kd.S_lower HO1.out (by simp), Below.trans ((Below.refl _ _).alloc (Nat.le_refl _) _) (HB1.out.mono (by simp))⟩
def impl_votes_least.f (a0_0 : Int) (l0_1 : List Bool) : Option ((List (List Int))) := if vOk a0_0 l0_1 = true then some (leastSets a0_0.toNat l0_1) else none
theorem impl_votes_least.calls (a0_0 : Int) (A0_1 : Option Addr) (c0_1 : Nat) (l0_1 : List Bool) (r : List (List Int)) (w : World) (hr0_1 : Kd.C Kd.bool w A0_1 l0_1.length l0_1) (hc0_1 : l0_1.length ≤ c0_1) (h : impl_votes_least.f a0_0 l0_1 = some r) :
  Calls Tryz.prog 146 #[.agg #[.int .i64 a0_0, .slice A0_1 l0_1.length c0_1]] w fun e w' => ∃ v0_ : Value, e = .returned (v0_) ∧ Kd.S (Kd.slice 3 (Kd.int .i64)) 36 w' w.heap.size (fun _ => True) v0_ r ∧ Below w.heap.size w w' := by
 unfold impl_votes_least.f vOk at h
 split at h
 ·rename_i h1
  have h1 := of_decide_eq_true h1
  obtain rfl := Option.some.inj h
  obtain ⟨n, rfl⟩ := Int.eq_ofNat_of_zero_le h1.1
  have h2 := h1.2.1
  have h3 := h1.2.2
  rw [Int.toNat_natCast] at h3 ⊢
  exact least_any n (by omega) A0_1 c0_1 l0_1 h3 w hr0_1 hc0_1
 ·cases h
end Go.Proofs.YtnncjnjfdhbddaaGreat.Z
namespace Go.Proofs.YtnncjnjfdhbddaaGreat.Z
open Go.RowKit Go.Proofs.YtnncjnjfdhbddaaGreatW.PrintWords Go.Proofs.YtnncjnjfdhbddaaGreatW.PrintLast Go.Proofs.YtnncjnjfdhbddaaGreatW.PrintMore
attribute [local go_sem] max2_int min2_int max_two min_two max_three min_three max_four min_four
set_option linter.unusedVariables false
set_option linter.unusedSimpArgs false
def impl_votes_game.f (a0_0 : Int) (l0_1 : List Bool) : Option (Int × (List (List Int))) := (impl_votes_least.f a0_0 l0_1).bind fun t659 => (some (a0_0, t659))
set_option maxHeartbeats 8000000 in
set_option maxRecDepth 100000 in
theorem impl_votes_game.calls (a0_0 : Int) (A0_1 : Option Addr) (c0_1 : Nat) (l0_1 : List Bool) (r1 : Int) (r2 : List (List Int)) (w : World) (hr0_1 : Kd.C Kd.bool w A0_1 l0_1.length l0_1) (hc0_1 : l0_1.length ≤ c0_1) (h : impl_votes_game.f a0_0 l0_1 = some (r1, r2)) :
  Calls Tryz.prog 120 #[.agg #[.int .i64 a0_0, .slice A0_1 l0_1.length c0_1]] w fun e w' => ∃ v1_ : Value, e = .returned (.agg #[.int .i64 r1, v1_]) ∧ Kd.S (Kd.slice 3 (Kd.int .i64)) 36 w' w.heap.size (fun _ => True) v1_ r2 ∧ Below w.heap.size w w' := by
 have hu68 := Tryz.underlying68
 have hu28 := Tryz.underlying28
 have HR0_1 := Aside0.mk hr0_1
 have HC0_1 := Aside0.mk hc0_1
 clear hr0_1 hc0_1
 have HB := Aside0.mk (Below.refl w.heap.size w)
 have H : ((impl_votes_least.f a0_0 l0_1).bind fun t659 => (some (a0_0, t659))) = some (r1, r2) := h
 clear h
 replace H := Option.bind_eq_some_iff.mp H
 obtain ⟨t659, A20, H⟩ := H
 replace H : (some (a0_0, t659)) = some (r1, r2) := H
 have A2 := Aside0.mk A20
 clear A20
 simp only [Option.some.injEq, Prod.mk.injEq] at H
 obtain ⟨rfl, rfl⟩ := H
 go_enter Tryz.func120, Tryz.ntmps120
 try go_wp2_with (first | ((with_reducible refine gate_dst (N := 1) rfl ?_); refine box_event ?hg (N := 1) ?hd (cs := #[.int .i64 a0_0, .slice A0_1 l0_1.length c0_1]) (t := 68) ?hr ?_; (case hd => rfl); (case hg => rfl); (case hr => first | (go_simp; done) | (go_simp; rfl)); intro gb657 hg w3 hbox hb; have n0_ := Aside0.mk (below_step (by repeat (first | (with_reducible first | exact HB.out | apply below_alloc | apply pw_below_drewN | apply below_drew1) | exact HB.out)) hb); have n1_ := Aside0.mk (hbox); have n2_ := Aside0.mk ((by rw [hg]; exact (below_size (by repeat (first | (with_reducible first | exact HB.out | apply below_alloc | apply pw_below_drewN | apply below_drew1) | exact HB.out))) : w.heap.size ≤ gb657)); have n3_ := Aside0.mk ((by rw [hg]; exact (below_size (by repeat (first | (with_reducible first | exact HB.out | apply below_alloc | apply pw_below_drewN | apply below_drew1) | exact HB.out))) : w.heap.size ≤ gb657)); clear HB; have HB := n0_; have BK657 := n1_; have GW657 := n2_; have GE657 := n3_; clear n0_ n1_ n2_ n3_; clear hb hbox hg) | ((with_reducible refine gate_dst (N := 2) rfl ?_); refine box_event ?hg (N := 2) ?hd (cs := #[.int .i64 0, .slice none 0 0]) (t := 28) ?hr ?_; (case hd => rfl); (case hg => rfl); (case hr => first | (go_simp; done) | (go_simp; rfl)); intro gb658 hg w4 hbox hb; have n0_ := Aside0.mk (blk_below (g := gb657) (o := .cells #[.int .i64 a0_0, .slice A0_1 l0_1.length c0_1] 68 (0, 0)) (by (with_reducible repeat (first | refine blk_drewN ?_ _ | refine blk_drew ?_ | refine blk_alloc ?_ _)); exact BK657.out) hb); have n1_ := Aside0.mk (below_step (by repeat (first | (with_reducible first | exact HB.out | apply below_alloc | apply pw_below_drewN | apply below_drew1 | refine below_set ?_ GE657.out) | exact HB.out)) hb); have n2_ := Aside0.mk (hbox); have n3_ := Aside0.mk ((by rw [hg]; exact (below_size (by repeat (first | (with_reducible first | exact HB.out | apply below_alloc | apply pw_below_drewN | apply below_drew1 | refine below_set ?_ GE657.out) | exact HB.out))) : w.heap.size ≤ gb658)); have n4_ := Aside0.mk ((by rw [hg]; exact (below_size (by repeat (first | (with_reducible first | exact HB.out | apply below_alloc | apply pw_below_drewN | apply below_drew1 | refine below_set ?_ GE657.out) | exact HB.out))) : w.heap.size ≤ gb658)); have n5_ := Aside0.mk ((by rw [hg]; exact Nat.ne_of_lt (blk_lt (g := gb657) (o := .cells #[.int .i64 a0_0, .slice A0_1 l0_1.length c0_1] 68 (0, 0)) (by (with_reducible repeat (first | refine blk_drewN ?_ _ | refine blk_drew ?_ | refine blk_alloc ?_ _)); exact BK657.out)) : gb657 ≠ gb658)); have n6_ := Aside0.mk ((by rw [hg]; exact Nat.ne_of_gt (blk_lt (g := gb657) (o := .cells #[.int .i64 a0_0, .slice A0_1 l0_1.length c0_1] 68 (0, 0)) (by (with_reducible repeat (first | refine blk_drewN ?_ _ | refine blk_drew ?_ | refine blk_alloc ?_ _)); exact BK657.out)) : gb658 ≠ gb657)); clear BK657; clear HB; have BK657 := n0_; have HB := n1_; have BK658 := n2_; have GW658 := n3_; have GE658 := n4_; have NB657_658 := n5_; have NB658_657 := n6_; clear n0_ n1_ n2_ n3_ n4_ n5_ n6_; clear hb hbox hg))
 have n0_ := Aside0.mk (blk_drew BK657.out)
 have n1_ := Aside0.mk (blk_drew BK658.out)
 have n2_ := Aside0.mk (below_drew1 HB.out)
 clear BK657
 clear BK658
 clear HB
 have BK657 := n0_
 have BK658 := n1_
 have HB := n2_
 clear n0_ n1_ n2_
 refine start_ (n := 6) (S := fun w' => w'.cell? ⟨gb657, 0, none⟩ = some (.int .i64 a0_0) ∧ w'.cell? ⟨gb657, 1, none⟩ = some (.slice A0_1 l0_1.length c0_1)) (ds := []) #[false, false, false, false, false, false] (by kernel_rfl) rfl rfl ⟨(blk_cell BK657.out 0).trans rfl, (blk_cell BK657.out 1).trans rfl⟩ (fun hHeld => ?_)
 generalize w4.drew = w5 at BK657 BK658 HB hHeld ⊢
 refine pure_ (i := 0) (N := some 3) (v := ?_) (a' := ?_) #[true, false, false, false, false, false] rfl rfl (by kernel_rfl) (fun _ _ _ h => h) (Or.inl ⟨by rfl, ?_⟩) ?_ ?_
 rotate_left
 ·intro w'
  go_simp
  with_reducible rfl
 rotate_left
 ·simp only [Act.put, List.setIfInBounds_toArray, List.set_cons_zero, List.set_cons_succ, i64_w, i32_w]
  rfl
 refine take_ (i := 1) (N := some 4) (v := ?_) (a' := ?_) #[true, true, false, false, false, false] rfl rfl (by kernel_rfl) (fun _ _ _ h => h) (Or.inl ⟨by rfl, ?_⟩) hHeld ?_ ?_
 rotate_left
 ·rintro w' ⟨s0, s1⟩
  go_simp
  with_reducible rfl
 rotate_left
 ·simp only [Act.put, List.setIfInBounds_toArray, List.set_cons_zero, List.set_cons_succ, i64_w, i32_w]
  rfl
 refine take_ (i := 2) (N := some 5) (v := ?_) (a' := ?_) #[true, true, true, false, false, false] rfl rfl (by kernel_rfl) (fun _ _ _ h => h) (Or.inl ⟨by rfl, ?_⟩) hHeld ?_ ?_
 rotate_left
 ·rintro w' ⟨s0, s1⟩
  go_simp
  with_reducible rfl
 rotate_left
 ·simp only [Act.put, List.setIfInBounds_toArray, List.set_cons_zero, List.set_cons_succ, i64_w, i32_w]
  rfl
 refine one_ (i := 3) (N := some 6) #[true, true, true, true, false, false] rfl rfl (by kernel_rfl) (by decide) (fun K hK => ?_)
 refine goes_ Tryz.func146 (by kernel_rfl) rfl #[.agg #[.int .i64 a0_0, .slice A0_1 l0_1.length c0_1]] (by rfl) rfl rfl (by (try simp only [List.map_toArray, List.map_cons, List.map_nil]); first | done | rfl | (simp only [List.length_drop, List.length_take]; rfl)) ?_
 with_reducible refine (impl_votes_least.calls a0_0 _ _ l0_1 t659 _ ?side1 ?side2 A2.out).mono ?_
 (case side1 => repeat (first | exact (Kd.C_below HR0_1.out HB.out) | (with_reducible refine Kd.C_alloc ?_ _) | (with_reducible refine Kd.C_drewN ?_ _) | (with_reducible refine Kd.C_drew ?_)))
 (case side2 => exact HC0_1.out)
 rintro e w6 ⟨v660, rfl, ho0, hb⟩
 refine ⟨_, rfl, ?_⟩
 have n0_ := Aside0.mk (Kd.S_lower ho0 (below_size (by repeat (first | (with_reducible first | exact HB.out | apply below_alloc | apply pw_below_drewN | apply below_drew1 | refine below_set ?_ GE657.out | refine below_set ?_ GE658.out) | exact HB.out))))
 have n1_ := Aside0.mk (blk_below (g := gb657) (o := .cells #[.int .i64 a0_0, .slice A0_1 l0_1.length c0_1] 68 (0, 0)) (by (with_reducible repeat (first | refine blk_drewN ?_ _ | refine blk_drew ?_ | refine blk_alloc ?_ _)); exact BK657.out) hb)
 have n2_ := Aside0.mk (blk_below (g := gb658) (o := .cells #[.int .i64 0, .slice none 0 0] 28 (0, 0)) (by (with_reducible repeat (first | refine blk_drewN ?_ _ | refine blk_drew ?_ | refine blk_alloc ?_ _)); exact BK658.out) hb)
 have n3_ := Aside0.mk (below_step (by repeat (first | (with_reducible first | exact HB.out | apply below_alloc | apply pw_below_drewN | apply below_drew1 | refine below_set ?_ GE657.out | refine below_set ?_ GE658.out) | exact HB.out)) hb)
 clear BK657
 clear BK658
 clear HB
 have HO661 := n0_
 have BK657 := n1_
 have BK658 := n2_
 have HB := n3_
 clear n0_ n1_ n2_ n3_
 (try clear hb)
 (try clear hb2)
 (try clear hk)
 (try clear hi)
 (try clear ho0)
 obtain ⟨Ao7, co7, eo7⟩ := Kd.S_slice HO661.out
 (first | subst eo7 | (injection eo7 with f1_ f2_ f3_; have f4_ := f1_.symm; have f5_ := f3_.symm; clear f1_ f2_ f3_; subst f4_; subst f5_))
 refine hK.out _ _ ⟨(blk_cell BK657.out 0).trans rfl, (blk_cell BK657.out 1).trans rfl⟩ (fun hHeld => ?_)
 clear hK K
 refine norm_ (a' := ?_) ?_ ?_
 rotate_left
 ·show Act.put _ (some 6) _ = _
  simp only [Act.put, List.setIfInBounds_toArray, List.set_cons_zero, List.set_cons_succ, i64_w, i32_w]
  rfl
 refine pure_ (i := 4) (N := some 7) (v := ?_) (a' := ?_) #[true, true, true, true, true, false] rfl rfl (by kernel_rfl) (fun _ _ _ h => h) (Or.inl ⟨by rfl, ?_⟩) ?_ ?_
 rotate_left
 ·intro w'
  go_simp
  with_reducible rfl
 rotate_left
 ·simp only [Act.put, List.setIfInBounds_toArray, List.set_cons_zero, List.set_cons_succ, i64_w, i32_w]
  rfl
 refine one_ (i := 5) (N := none) #[true, true, true, true, true, true] rfl rfl (by kernel_rfl) (by decide) (fun K hK => ?_)
 have hs8 : w6.cell? ⟨gb658, 0, none⟩ = some (.int .i64 0) := (blk_cell BK658.out 0).trans rfl
 have hfs8 := blk_frozen BK658.out 0
 have hns8_0 := NB657_658.out
 have hms8_0 := NB658_657.out
 have hs9 : w6.cell? ⟨gb658, 1, none⟩ = some (.slice none 0 0) := (blk_cell BK658.out 1).trans rfl
 have hfs9 := blk_frozen BK658.out 1
 have hns9_0 := NB657_658.out
 have hms9_0 := NB658_657.out
 refine skip_ (w1 := ?_) (by rfl) rfl ?_ ?_
 rotate_left
 ·go_simp
  rfl
 refine hK.out _ _ ⟨((cell_far (p := ⟨gb658, _, none⟩) NB657_658.out _).trans (((cell_far (p := ⟨gb658, _, none⟩) NB657_658.out _).trans (hHeld.1)))), ((cell_far (p := ⟨gb658, _, none⟩) NB657_658.out _).trans (((cell_far (p := ⟨gb658, _, none⟩) NB657_658.out _).trans (hHeld.2))))⟩ (fun hHeld => ?_)
 clear hK K
 refine done_ (by kernel_rfl) ?_
 try go_wp2
 refine bodyPost_ret (results_cell_row rfl _ _ gb658 28 #[.int .i64 a0_0, .slice Ao7 t659.length co7] (0, 0) _ rfl (by (with_reducible repeat (first | refine blk_drewN ?_ _ | refine blk_drew ?_ | refine blk_alloc ?_ _)); refine blk_put (cs := #[.int .i64 a0_0, .slice none 0 0]) ?_ 1 _ rfl; (with_reducible repeat (first | refine blk_drewN ?_ _ | refine blk_drew ?_ | refine blk_alloc ?_ _)); refine blk_put (cs := #[.int .i64 0, .slice none 0 0]) ?_ 0 _ rfl; (with_reducible repeat (first | refine blk_drewN ?_ _ | refine blk_drew ?_ | refine blk_alloc ?_ _)); exact BK658.out) Tryz.underlying28 rfl (by kernel_rfl)) rfl ?_
 exact ⟨_, by first | rfl | (simp [errW_none, errW_some] <;> rfl) | (simp [*, errW_none, errW_some] <;> rfl), by (with_reducible repeat (first | apply Kd.S_alloc | apply Kd.S_drewN | apply Kd.S_drew)); exact Kd.S_mono (Kd.S_far (p := ⟨gb658, 1, none⟩) (Kd.S_far (p := ⟨gb658, 0, none⟩) (Kd.S_types HO661.out BK658.out (by decide)) (fun _ hk => hk.2) (.int .i64 a0_0)) (fun _ hk => hk.2) (.slice Ao7 t659.length co7)) (fun _ hk => trivial), by repeat (first | (with_reducible first | exact HB.out | apply below_alloc | apply pw_below_drewN | apply below_drew1 | refine below_set ?_ GE657.out | refine below_set ?_ GE658.out) | exact HB.out)⟩
end Go.Proofs.YtnncjnjfdhbddaaGreat.Z
namespace Go.Proofs.YtnncjnjfdhbddaaGreat.Z
open Go.RowKit Go.Proofs.YtnncjnjfdhbddaaGreatW.PrintWords Go.Proofs.YtnncjnjfdhbddaaGreatW.PrintLast Go.Proofs.YtnncjnjfdhbddaaGreatW.PrintMore
attribute [local go_sem] max2_int min2_int max_two min_two max_three min_three max_four min_four
set_option linter.unusedVariables false
set_option linter.unusedSimpArgs false
def bitsB (n t : Nat) : List Bool := (List.range (2 ^ n)).map fun m => t.testBit m
def isTab (n t : Nat) : Bool := !(t.testBit 0) && t.testBit (2 ^ n - 1)
def gameT (n t : Nat) : S28 := ⟨(n : Int), leastSets n (bitsB n t)⟩
def rawG (n : Nat) (l : List Nat) : List S28 := (l.filter (isTab n)).map (gameT n)
theorem rawG_yes (n : Nat) (l : List Nat) (k : Nat) (hk : k < l.length) (h : isTab n (l.getD k 0) = true) : rawG n (l.take (k + 1)) = rawG n (l.take k) ++ [gameT n (l.getD k 0)] := by
 have e : l.take (k + 1) = l.take k ++ [l.getD k 0] := by rw [List.take_succ_eq_append_getElem hk]; simp [List.getD_eq_getElem?_getD, hk]
 rw [e, rawG, List.filter_append, List.map_append, List.filter_cons, if_pos h]
 rfl
theorem rawG_no (n : Nat) (l : List Nat) (k : Nat) (hk : k < l.length) (h : isTab n (l.getD k 0) = false) : rawG n (l.take (k + 1)) = rawG n (l.take k) := by
 have e : l.take (k + 1) = l.take k ++ [l.getD k 0] := by rw [List.take_succ_eq_append_getElem hk]; simp [List.getD_eq_getElem?_getD, hk]
 rw [e, rawG, List.filter_append, List.map_append, List.filter_cons, if_neg (by rw [h]; simp)]
 simp [rawG]
theorem rawG_len (n : Nat) (l : List Nat) : (rawG n l).length ≤ l.length := by
 simp only [rawG, List.length_map]
 exact List.length_filter_le _ _
theorem infoG : (Tryz.prog.info? 28).map (fun i => (i.zero, i.size, i.bytes)) = some (some (.agg #[(.int .i64 0), (.slice none 0 0)]), 2, 32) := by kernel_rfl
theorem bitsB_len (n t : Nat) : (bitsB n t).length = 2 ^ n := by simp [bitsB]
theorem all_val (n : Nat) (h0 : 1 ≤ n) (h : n ≤ 4) (bl : List Bool) : impl_votes_all.f (n : Int) bl = some ((2 ^ n - 1 : Nat) : Int) := by
 have : n = 1 ∨ n = 2 ∨ n = 3 ∨ n = 4 := by omega
 rcases this with h | h | h | h <;> subst h <;> (simp only [impl_votes_all.f]; decide +kernel)
theorem game_val (n t : Nat) (h : n ≤ 4) : impl_votes_game.f (n : Int) (bitsB n t) = some ((n : Int), leastSets n (bitsB n t)) := by
 have h1 : vOk (n : Int) (bitsB n t) = true := by
  simp only [vOk, decide_eq_true_eq, bitsB_len, Int.toNat_natCast]
  exact ⟨by omega, by omega, trivial⟩
 simp only [impl_votes_game.f, impl_votes_least.f, h1, if_true, Option.bind_some, Int.toNat_natCast]
theorem bits_at (n t m : Nat) (h : m < 2 ^ n) : rdOf false (bitsB n t) (m : Int) = t.testBit m := by
 simp [rdOf, bitsB, List.getD_eq_getElem?_getD, h]
theorem allGames_v (n t : Nat) (hn : n ≤ 4) (h0 : 1 ≤ n) (b : Nat) (W : World) (hb : W.cell? ⟨b, 0, none⟩ = some (.int .i64 (t : Int))) (ht : t < 65536)
  (hfn : ∀ (m : Nat) (W' : World), m < 62 → W'.cell? ⟨b, 0, none⟩ = some (.int .i64 (t : Int)) → Calls Tryz.prog 117 #[.int .i64 (m : Int), .pointer (some ⟨b, 0, none⟩)] W' fun e w' => e = .returned (.bool (t.testBit m)) ∧ Below W'.heap.size W' w') :
  Calls Tryz.prog 112 #[.int .i64 (n : Int), .func (.func 117) #[] #[.pointer (some ⟨b, 0, none⟩)]] W fun e w' => ∃ A2 c2, e = .returned (.agg #[.int .i64 (n : Int), .slice A2 (bitsB n t).length c2]) ∧ Kd.C Kd.bool w' A2 (bitsB n t).length (bitsB n t) ∧ (bitsB n t).length ≤ c2 ∧ Below W.heap.size W w' := by
 have eg : ∀ args w, (callFunc 117 args).run Tryz.prog w = .ok (.enter 117 args) w := enters_of Tryz.func117 (by kernel_rfl) rfl
 have hpn : 2 ^ n ≤ 16 := by
  have : n = 1 ∨ n = 2 ∨ n = 3 ∨ n = 4 := by omega
  rcases this with h | h | h | h <;> subst h <;> decide
 refine (votesOf_any n (by omega) (fun m => t.testBit m) 117 #[.pointer (some ⟨b, 0, none⟩)] W eg
    (fun W' m hm hb' => hfn m W' (by omega) ((hb'.cell (World.block_lt_of_cell? W _ hb)).trans hb))).mono ?_
 rintro e w2 ⟨v2, rfl, ho, hb⟩
 change Kd.R Kd.bool 4 w2 W.heap.size _ v2 (bitsB n t) at ho
 obtain ⟨A2, c2, rfl, hl2, hC2⟩ := Kd.R_reads ho
 exact ⟨A2, c2, rfl, hC2, hl2, hb⟩
theorem sortGames_any (W : World) (base : Nat) (A : Option Addr) (c : Nat) (xs : List S28) (hx : xs.length ≤ 100000)
  (hS : Kd.R k28 28 W base (fun _ => True) (.slice A xs.length c) xs) :
  Calls Tryz.prog 121 #[.slice A xs.length c, .func (.func 122) #[] #[]] W fun e w' => e = .returned (.tuple #[]) ∧ ∃ xs', SortedBy cmpLL S28.f1 xs xs' ∧ Kd.R k28 28 w' base (fun _ => True) (.slice A xs.length c) xs' ∧ W.grownBy w' (Value.slice A xs.length c).ownBlock := by
 rcases Nat.eq_zero_or_pos xs.length with h0 | h0
 ·obtain rfl := List.eq_nil_of_length_eq_zero h0
  refine (show Calls Tryz.prog 121 _ W _ from AnyF.slices_SortFunc_none { Tryz.sortG with } A c (.func (.func 122) #[] #[]) W).mono ?_
  rintro e w' ⟨he, rfl⟩
  exact ⟨he, [], ⟨List.Perm.refl _, List.Pairwise.nil⟩, hS, World.grownBy.refl _ _⟩
 ·obtain ⟨g, cap, e, _⟩ := Kd.R_form hS h0
  rw [e] at hS ⊢
  exact (sortGames_pos W base g cap xs hx h0 hS).mono fun _ _ ⟨h1, xs', h2, h3, h4⟩ => ⟨h1, xs', h2, h3, h4⟩
theorem allGames_fn (t m b : Nat) (ht : t < 2 ^ 62) (hm : m < 62) (W : World) (h1 : W.cell? ⟨b, 0, none⟩ = some (.int .i64 (t : Int))) :
  Calls Tryz.prog 117 #[.int .i64 (m : Int), .pointer (some ⟨b, 0, none⟩)] W fun e w' => e = .returned (.bool (t.testBit m)) ∧ Below W.heap.size W w' := by
 have hh := has_eq t m ht hm
 generalize t.testBit m = q at hh
 have HH := Aside0.mk hh
 clear hh
 go_enter Tryz.func117, Tryz.ntmps117
 go_wp2_with (go_at_call 118; refine (impl_has.calls (t : Int) (m : Int) _ _ HH.out).mono ?_; rintro e w' ⟨rfl, hd⟩; have HD := Aside0.mk hd.below; clear hd)
 go_ret
 exact ⟨rfl, HD.out⟩
set_option maxRecDepth 100000 in
set_option maxHeartbeats 8000000 in
theorem allGames_any (n : Nat) (hn : n ≤ 4) (hn1 : 1 ≤ n) (w : World) :
  Calls Tryz.prog 78 #[.int .i64 (n : Int)] w fun e w' => ∃ v : Value, e = .returned v ∧ (∃ xs', SortedBy cmpLL S28.f1 (rawG n (tabs n)) xs' ∧ Kd.R k28 28 w' w.heap.size (fun _ => True) v xs') ∧ Below w.heap.size w w' := by
 have hu68 := Tryz.underlying68
 have hu28 := Tryz.underlying28
 have h1 := tabs_len n hn
 have h2 := tabs_lt n hn
 have ih := tables_any n hn
 generalize tabs n = l at *
 have ih2 : ∀ w, Calls Tryz.prog 116 #[.int .i64 (n : Int)] w fun e w' => ∃ A1 c1, e = .returned (.slice A1 l.length c1) ∧ Kd.R (Kd.int .i64) 3 w' w.heap.size (fun _ => True) (.slice A1 l.length c1) (tabI l) ∧ Below w.heap.size w w' := fun w => (ih w).mono fun e w' ⟨v, he, hR, hB⟩ => by
  obtain ⟨A1, c1, rfl, _, hC⟩ := Kd.R_reads hR
  have e1 : (tabI l).length = l.length := by simp [tabI]
  rw [e1] at he hR
  exact ⟨A1, c1, he, hR, hB⟩
 have IH := Aside0.mk ih2
 have HL := Aside0.mk h2
 have HLEN := Aside0.mk (fun k => Nat.le_trans (rawG_len n (l.take k)) (Nat.le_trans (List.length_take_le' _ _) h1))
 obtain ⟨N, hNl⟩ : ∃ N, N = l.length := ⟨_, rfl⟩
 rw [← hNl] at IH h1
 have HN := Aside0.mk hNl
 clear ih ih2 h2 hNl
 go_enter Tryz.func78, Tryz.ntmps78
 go_wp2_with (go_at_call 116; refine (IH.out _).mono ?_; rintro e w1 ⟨A1, c1, rfl, hC, hb⟩; have HC := Aside0.mk hC; have HB := Aside0.mk hb; clear hb hC)
 clear IH
 have hpn : 1 ≤ 2 ^ n ∧ 2 ^ n ≤ 16 := by
  have : n = 1 ∨ n = 2 ∨ n = 3 ∨ n = 4 := by omega
  rcases this with h | h | h | h <;> subst h <;> decide
 have HPN := Aside0.mk hpn
 go_loopg [3, 5, 6, 11] N (fun gg v3 _ _ s11 wr => ∃ kk : Nat, kk ≤ N ∧ N - kk ≤ gg ∧ s11 = .int .i64 kk ∧ Aside0 (Below w.heap.size w wr) ∧ Aside0 (Kd.R (Kd.int .i64) 3 wr w.heap.size (fun _ => True) (.slice A1 N c1) (tabI l)) ∧ Aside0 (Kd.R k28 28 wr w.heap.size (fun _ => True) v3 (rawG n (l.take kk))))
 case atStart =>
  refine ⟨0, by omega, by omega, rfl, ⟨Below.trans ((Below.refl _ _).alloc (Nat.le_refl _) _) (HB.out.mono (by simp))⟩, ⟨Kd.R_lower HC.out (by simp)⟩, ⟨?_⟩⟩
  refine ⟨fun _ _ => trivial, [], ⟨rfl, .inr ⟨w.heap.size, 0, #[], rfl, Nat.le_refl _, ?_, Nat.le_refl _, by simp [maxLen], rfl, rfl⟩⟩, Reps.none _ _⟩
  exact (HB.out.block _ (by simp)).trans (heap1_0 _ _)
 case round =>
  obtain ⟨kk, hkk, hg, rfl, BW, HT, HO⟩ := hrel
  by_cases hlt : kk < N
  ·have hltz : (kk : Int) < (N : Int) := by omega
   have h0z : (0 : Int) ≤ (kk : Int) := by omega
   obtain ⟨ad, e, hcell⟩ := Kd.at_int (Kd.R_reads' HT.out).2.2 (kk : Int) h0z (by have := HN.out; simp only [tabI, List.length_map]; omega)
   rw [tabI_get, Int.toNat_natCast] at hcell
   have ht := HL.out (l.getD kk 0) (by have := HN.out; simp [List.getD_eq_getElem?_getD, show kk < l.length by omega])
   have hyes := rawG_yes n l kk (by have := HN.out; omega)
   have hno := rawG_no n l kk (by have := HN.out; omega)
   generalize l.getD kk 0 = t at hcell ht hyes hno
   subst e
   have hlb := bitsB_len n t
   have hvo := fun (W : World) (b : Nat) (h1 : W.cell? ⟨b, 0, none⟩ = some (.int .i64 (t : Int))) => allGames_v n t hn hn1 b W h1 ht (fun m W' hm h2 => allGames_fn t m b (by omega) hm W' h2)
   have hall := fun (A : Option Addr) (c : Nat) (W : World) (h1 : Kd.C Kd.bool W A (bitsB n t).length (bitsB n t)) (h2 : (bitsB n t).length ≤ c) => impl_votes_all.calls (n : Int) A c (bitsB n t) _ W h1 h2 (all_val n hn1 hn _)
   have hgame := fun (A : Option Addr) (c : Nat) (W : World) (h1 : Kd.C Kd.bool W A (bitsB n t).length (bitsB n t)) (h2 : (bitsB n t).length ≤ c) => impl_votes_game.calls (n : Int) A c (bitsB n t) _ _ W h1 h2 (game_val n t hn)
   change isTab n t = true → rawG n (l.take (kk+1)) = rawG n (l.take kk) ++ [⟨(n : Int), leastSets n (bitsB n t)⟩] at hyes
   have hm0 : rdOf false (bitsB n t) 0 = t.testBit 0 := bits_at n t 0 (by have := HPN.out; omega)
   have hmn : rdOf false (bitsB n t) ((2 ^ n - 1 : Nat) : Int) = t.testBit (2 ^ n - 1) := bits_at n t _ (by have := HPN.out; omega)
   have hpn := HPN.out
   have hit : isTab n t = (!(t.testBit 0) && t.testBit (2 ^ n - 1)) := rfl
   generalize leastSets n (bitsB n t) = gs at hgame hyes
   generalize bitsB n t = bl at *
   generalize t.testBit 0 = q0 at *
   generalize t.testBit (2 ^ n - 1) = q1 at *
   rw [← hlb] at hpn hall hmn
   generalize isTab n t = it at *
   obtain ⟨Q, hQ⟩ : ∃ Q, Q = bl.length := ⟨_, rfl⟩
   rw [← hQ] at hvo hall hgame hpn hmn
   obtain ⟨M, hMQ⟩ : ∃ M, M = Q - 1 := ⟨_, rfl⟩
   rw [← hMQ] at hall hmn
   have hM1 : M < Q := by omega
   have hM2 : (M : Int) < (Q : Int) := by omega
   have hM3 : (0 : Int) ≤ (M : Int) := by omega
   have hQ1 : 0 < Q := by omega
   have HVO := Aside0.mk hvo
   have HALL := Aside0.mk hall
   have HGAME := Aside0.mk hgame
   have HY := Aside0.mk hyes
   have HNo := Aside0.mk hno
   have HM := Aside0.mk (And.intro hm0 hmn)
   have HQ := Aside0.mk hQ
   have HIT := Aside0.mk hit
   have HRL := Aside0.mk (HLEN.out kk)
   clear hvo hall hgame hyes hno hlb hm0 hmn hQ hit hMQ
   go_wp2_with (go_at_call 112; refine (HVO.out _ wr.heap.size (by simp)).mono ?_; rintro e w2 ⟨A2, c2, rfl, hC2, hl2, hb⟩; have HC2 := Aside0.mk hC2; have HB2 := Aside0.mk hb; have HL2 := Aside0.mk hl2; clear hb hC2 hl2)
   obtain ⟨ad, e, hc0⟩ := Kd.at_bool HC2.out 0 (by omega) (by omega)
   obtain ⟨ad', e', hc1⟩ := Kd.at_bool HC2.out (M : Int) (by omega) (by omega)
   subst e
   cases e'
   have had : ad.add (0 : Int).toNat = ad := rfl
   rw [HM.out.1, had] at hc0
   clear had
   rw [HM.out.2, Int.toNat_natCast] at hc1
   have hv0 : ∀ o, (w2.alloc o).cell? ad = some (.bool q0) := fun o => (World.cell?_alloc_lt _ _ _ (World.block_lt_of_cell? w2 _ hc0)).trans hc0
   have HCH := Aside0.mk (show Below wr.heap.size wr w2 from Below.trans ((Below.refl _ _).alloc (Nat.le_refl _) _) (HB2.out.mono (by simp)))
   cases q0 with
   | true =>
    go_quiet (fail)
    go_wp2
    go_roundg (N - (kk + 1))
    case measure => omega
    case rel =>
     have e1 := HNo.out (by rw [HIT.out]; rfl)
     refine ⟨kk + 1, by omega, by omega, by go_num, ⟨?_⟩, ⟨?_⟩, ⟨?_⟩⟩
     ·exact Below.trans BW.out ((pw_below_drewN (below_alloc HCH.out _) _).mono BW.out.size)
     ·exact Kd.R_below HT.out (pw_below_drewN (below_alloc HCH.out _) _)
     ·rw [e1]
      exact Kd.R_below HO.out (pw_below_drewN (below_alloc HCH.out _) _)
   | false =>
    go_region_held3 (fun w' => w'.cell? ⟨w2.heap.size, 0, none⟩ = some (.int .i64 (n : Int)) ∧ w'.cell? ⟨w2.heap.size, 1, none⟩ = some (.slice (some ad) Q c2) ∧ w'.cell? ad = some (.bool false) ∧ w'.cell? (ad.add M) = some (.bool q1)) (go_keep)
     (first | (go_at_call 119; refine (HALL.out _ _ _ (Kd.C_below HC2.out (below_drew (below_alloc (Below.refl _ _) _))) HL2.out).mono ?_; rintro e w3 ⟨rfl, hb3⟩; have hbw : Below w2.heap.size w2 w3 := Below.trans (below_drew (below_alloc (Below.refl _ _) _)) (hb3.mono (by simp)); have hk0 : w3.cell? ad = some (.bool false) := (hbw.cell (World.block_lt_of_cell? w2 _ hc0)).trans hc0; have hk1 : w3.cell? (ad.add M) = some (.bool q1) := (hbw.cell (World.block_lt_of_cell? w2 _ hc1)).trans hc1; have hbx : w3.heap[w2.heap.size]? = some (.cells #[.int .i64 (n : Int), .slice (some ad) Q c2] 68 (0, 0)) := blk_below (blk_drewN (heap1_0 _ _) _) hb3; have hx0 : w3.cell? ⟨w2.heap.size, 0, none⟩ = some (.int .i64 (n : Int)) := (blk_cell hbx 0).trans rfl; have hx1 : w3.cell? ⟨w2.heap.size, 1, none⟩ = some (.slice (some ad) Q c2) := (blk_cell hbx 1).trans rfl; have HBW := Aside0.mk hbw; clear hb3 hbw hbx))
    have HC3 := Aside0.mk (Below.trans HCH.out (HBW.out.mono HCH.out.size))
    cases q1 with
    | false =>
     go_wp2
     go_roundg (N - (kk + 1))
     case measure => omega
     case rel =>
      have e1 := HNo.out (by rw [HIT.out]; rfl)
      refine ⟨kk + 1, by omega, by omega, by go_num, ⟨?_⟩, ⟨?_⟩, ⟨?_⟩⟩
      ·exact Below.trans BW.out (HC3.out.mono BW.out.size)
      ·exact Kd.R_below HT.out HC3.out
      ·rw [e1]
       exact Kd.R_below HO.out HC3.out
    | true =>
     go_wp2_with (first | (go_at_call 120; refine (HGAME.out _ _ _ (Kd.C_below HC2.out HBW.out) HL2.out).mono ?_; rintro e w4 ⟨v4, rfl, ho4, hb4⟩; have HO4 := Aside0.mk ho4; have HB4 := Aside0.mk hb4; clear ho4 hb4) | ((with_reducible refine gate_builtin (b := .append) (xs := #[.tmp 31, .tmp 34]) rfl ?_); at_builtin; refine Kd.R_append k28 (w0 := w) w.heap.size rfl (.tmp 31) (.tmp 34) 53 28 (.agg #[.int .i64 0, .slice none 0 0]) 32 rfl Tryz.underlying53 infoG rfl (by decide) (by decide) u3 (rawG n (l.take kk)) ⟨(n : Int), gs⟩ [.int .i64 (n : Int), v4] (fun _ => True) (fun k => w3.heap.size ≤ k ∧ k < w4.heap.size) rfl rfl ?aP ?aQ (fun _ _ => trivial) ?aO ?aB ?aS ?aL ?_; (case aP => exact k28_mkM _ _ _ ⟨(n : Int), gs⟩ (Kd.S_R (Kd.S_mono (Kd.S_lower (Kd.S_bound HO4.out) (Nat.le_trans BW.out.size HC3.out.size)) (fun k hk => ⟨hk.2.1, hk.2.2.1⟩)))); (case aQ => exact fun k hk => ⟨trivial, fun e => by have h1 := Kd.R_lt HO.out k e.symm; have h2 := HC3.out.size; omega⟩); (case aO => exact Kd.R_below HO.out (Below.trans HC3.out (HB4.out.mono HC3.out.size))); (case aB => exact Below.trans (Below.trans BW.out (HC3.out.mono BW.out.size)) (HB4.out.mono (Nat.le_trans BW.out.size HC3.out.size))); (case aS => exact Nat.le_trans (Nat.le_trans BW.out.size HC3.out.size) HB4.out.size); (case aL => have h1 := HRL.out; omega); intro v5 w5 ho5 hb5 hg5 hat5; have HO5 := Aside0.mk ho5; have HB5 := Aside0.mk hb5; have HG5 := Aside0.mk hg5; clear ho5 hb5 hg5 hat5))
     go_roundg (N - (kk + 1))
     case measure => omega
     case rel =>
      have e1 := HY.out (by rw [HIT.out]; rfl)
      refine ⟨kk + 1, by omega, by omega, by go_num, HB5, ⟨?_⟩, ⟨?_⟩⟩
      ·have h4 := Below.trans HC3.out (HB4.out.mono HC3.out.size)
       exact Kd.R_over' (Kd.R_below HT.out h4) (Kd.R_typed (Kd.R_below HO.out h4)) (by decide) HG5.out
      ·rw [e1]
       exact HO5.out
  ·have hltz : ¬ (kk : Int) < (N : Int) := by omega
   have : kk = N := by omega
   subst this
   have ho := HO.out
   rw [HN.out, List.take_length] at ho
   obtain ⟨Av, cv, rfl⟩ := Kd.R_slice ho
   have hs := sortGames_any wr w.heap.size Av cv (rawG n l) (by have := HLEN.out l.length; rw [List.take_length] at this; omega) ho
   have HS := Aside0.mk hs
   have HO' := Aside0.mk ho
   clear hs ho
   go_wp2_with (go_at_call 121; refine HS.out.mono ?_; rintro e w1 ⟨rfl, xs', hx, ho, hg⟩; have HX := Aside0.mk hx; have HO1 := Aside0.mk ho; have HG1 := Aside0.mk hg; clear hx ho hg)
   go_ret
   exact ⟨_, rfl, ⟨xs', HX.out, HO1.out⟩, BW.out.grown HG1.out BW.out.size (Kd.R_base HO'.out)⟩
def allG (n : Nat) : List S28 := (sortC cmpLL ((rawG n (tabs n)).map S28.f1)).map fun ws => ⟨(n : Int), ws⟩
theorem allG_of (n : Nat) (xs : List S28) (h : SortedBy cmpLL S28.f1 (rawG n (tabs n)) xs) : xs = allG n := by
 have h1 := sortC_unique Cmp.LL (h.1.map S28.f1) (List.pairwise_map.2 h.2)
 have h2 : ∀ x ∈ xs, x = ⟨(n : Int), x.f1⟩ := fun x hx => by
  have h3 := h.1.mem_iff.1 hx
  unfold rawG at h3
  obtain ⟨t, _, rfl⟩ := List.mem_map.1 h3
  rfl
 rw [allG, ← h1, List.map_map]
 exact (List.map_congr_left (g := fun x => (⟨(n : Int), x.f1⟩ : S28)) (f := id) h2 ▸ (List.map_id xs).symm)
def impl_allGames.f (a0 : Int) : Option ((List (S28))) := if 1 ≤ a0 ∧ a0 ≤ 4 then some (allG a0.toNat) else none
theorem impl_allGames.calls (a0 : Int) (r : List (S28)) (w : World) (h : impl_allGames.f a0 = some r) :
  Calls Tryz.prog 78 #[.int .i64 a0] w fun e w' => ∃ v0_ : Value, e = .returned (v0_) ∧ Kd.R k28 28 w' w.heap.size (fun _ => True) v0_ r ∧ Below w.heap.size w w' := by
 unfold impl_allGames.f at h
 split at h
 ·rename_i h1
  obtain rfl := Option.some.inj h
  obtain ⟨n, rfl⟩ := Int.eq_ofNat_of_zero_le (show 0 ≤ a0 by omega)
  rw [Int.toNat_natCast]
  refine (allGames_any n (by omega) (by omega) w).mono ?_
  rintro e w' ⟨v, he, ⟨xs, hx, hR⟩, hB⟩
  rw [allG_of n xs hx] at hR
  exact ⟨v, he, hR, hB⟩
 ·cases h
end Go.Proofs.YtnncjnjfdhbddaaGreat.Z
namespace Go.Proofs.YtnncjnjfdhbddaaGreat.Z
open Go.RowKit Go.Proofs.YtnncjnjfdhbddaaGreatW.PrintWords Go.Proofs.YtnncjnjfdhbddaaGreatW.PrintLast Go.Proofs.YtnncjnjfdhbddaaGreatW.PrintMore
attribute [local go_sem] max2_int min2_int max_two min_two max_three min_three max_four min_four
set_option linter.unusedVariables false
set_option linter.unusedSimpArgs false
def spec_gmBefore.l0 : Nat → List (List Int) → Int → Int → Int → List (List Int) → Int → List (List Int) → Option (Bool)
 | 0, _, _, _, _, _, _, _ => none
 | k + 1, x8, x9, x10, x615000, x615001, x616000, x616001 => if x10 < x9 then (if 0 ≤ x10 then (if x10 < (x8.length : Int) then (if x10 ≥ (x616001.length : Int) then (some false) else (if x10 < (x616001.length : Int) then ((spec_voBefore.f k (rd_L1 x8 x10) (rd_L1 x616001 x10)).bind fun t618 => (if t618 = true then (some true) else ((spec_voBefore.f k (rd_L1 x616001 x10) (rd_L1 x8 x10)).bind fun t620 => (if t620 = true then (some false) else (spec_gmBefore.l0 k x8 x9 (wrap64 (x10 + 1)) x615000 x615001 x616000 x616001))))) else (none))) else (none)) else (none)) else (some (decide ((x615001.length : Int) < (x616001.length : Int))))
def spec_gmBefore.f (k : Nat) (a0_0 : Int) (l0_1 : List (List Int)) (a1_0 : Int) (l1_1 : List (List Int)) : Option (Bool) := spec_gmBefore.l0 k l0_1 (l0_1.length : Int) 0 a0_0 l0_1 a1_0 l1_1
set_option maxHeartbeats 8000000 in
set_option maxRecDepth 100000 in
theorem spec_gmBefore.calls (k : Nat) (a0_0 : Int) (A0_1 : Option Addr) (c0_1 : Nat) (l0_1 : List (List Int)) (a1_0 : Int) (A1_1 : Option Addr) (c1_1 : Nat) (l1_1 : List (List Int)) (r : Bool) (w : World) (hr0_1 : Kd.C (Kd.slice 3 (Kd.int .i64)) w A0_1 l0_1.length l0_1) (hc0_1 : l0_1.length ≤ c0_1) (hr1_1 : Kd.C (Kd.slice 3 (Kd.int .i64)) w A1_1 l1_1.length l1_1) (hc1_1 : l1_1.length ≤ c1_1) (h : spec_gmBefore.f k a0_0 l0_1 a1_0 l1_1 = some r) :
  Calls Tryz.prog 84 #[.agg #[.int .i64 a0_0, .slice A0_1 l0_1.length c0_1], .agg #[.int .i64 a1_0, .slice A1_1 l1_1.length c1_1]] w fun e w' => e = .returned (.bool r) ∧ Below w.heap.size w w' := by
 have hu28 := Tryz.underlying28
 have HR0_1 := Aside0.mk hr0_1
 have HC0_1 := Aside0.mk hc0_1
 clear hr0_1 hc0_1
 have HR1_1 := Aside0.mk hr1_1
 have HC1_1 := Aside0.mk hc1_1
 clear hr1_1 hc1_1
 have HB := Aside0.mk (Below.refl w.heap.size w)
 have H : (spec_gmBefore.l0 k l0_1 (l0_1.length : Int) 0 a0_0 l0_1 a1_0 l1_1) = some r := h
 clear h
 have H' := Aside0.mk H
 clear H
 go_enter Tryz.func84, Tryz.ntmps84
 go_wp2_with (first | ((with_reducible refine gate_dst (N := 2) rfl ?_); refine box_event ?hg (N := 2) ?hd (cs := #[.int .i64 a0_0, .slice A0_1 l0_1.length c0_1]) (t := 28) ?hr ?_; (case hd => rfl); (case hg => rfl); (case hr => first | (go_simp; done) | (go_simp; rfl)); intro gb614 hg w3 hbox hb; have n0_ := Aside0.mk (below_step (by repeat (first | (with_reducible first | exact HB.out | apply below_alloc | apply pw_below_drewN | apply below_drew1) | exact HB.out)) hb); have n1_ := Aside0.mk (hbox); have n2_ := Aside0.mk ((by rw [hg]; exact (below_size (by repeat (first | (with_reducible first | exact HB.out | apply below_alloc | apply pw_below_drewN | apply below_drew1) | exact HB.out))) : w.heap.size ≤ gb614)); have n3_ := Aside0.mk ((by rw [hg]; exact (below_size (by repeat (first | (with_reducible first | exact HB.out | apply below_alloc | apply pw_below_drewN | apply below_drew1) | exact HB.out))) : w.heap.size ≤ gb614)); clear HB; have HB := n0_; have BK614 := n1_; have GW614 := n2_; have GE614 := n3_; clear n0_ n1_ n2_ n3_; clear hb hbox hg) | ((with_reducible refine gate_dst (N := 3) rfl ?_); refine box_event ?hg (N := 3) ?hd (cs := #[.int .i64 a1_0, .slice A1_1 l1_1.length c1_1]) (t := 28) ?hr ?_; (case hd => rfl); (case hg => rfl); (case hr => first | (go_simp; done) | (go_simp; rfl)); intro gb615 hg w4 hbox hb; have n0_ := Aside0.mk (blk_below (g := gb614) (o := .cells #[.int .i64 a0_0, .slice A0_1 l0_1.length c0_1] 28 (0, 0)) (by (with_reducible repeat (first | refine blk_drewN ?_ _ | refine blk_drew ?_ | refine blk_alloc ?_ _)); exact BK614.out) hb); have n1_ := Aside0.mk (below_step (by repeat (first | (with_reducible first | exact HB.out | apply below_alloc | apply pw_below_drewN | apply below_drew1 | refine below_set ?_ GE614.out) | exact HB.out)) hb); have n2_ := Aside0.mk (hbox); have n3_ := Aside0.mk ((by rw [hg]; exact (below_size (by repeat (first | (with_reducible first | exact HB.out | apply below_alloc | apply pw_below_drewN | apply below_drew1 | refine below_set ?_ GE614.out) | exact HB.out))) : w.heap.size ≤ gb615)); have n4_ := Aside0.mk ((by rw [hg]; exact (below_size (by repeat (first | (with_reducible first | exact HB.out | apply below_alloc | apply pw_below_drewN | apply below_drew1 | refine below_set ?_ GE614.out) | exact HB.out))) : w.heap.size ≤ gb615)); have n5_ := Aside0.mk ((by rw [hg]; exact Nat.ne_of_lt (blk_lt (g := gb614) (o := .cells #[.int .i64 a0_0, .slice A0_1 l0_1.length c0_1] 28 (0, 0)) (by (with_reducible repeat (first | refine blk_drewN ?_ _ | refine blk_drew ?_ | refine blk_alloc ?_ _)); exact BK614.out)) : gb614 ≠ gb615)); have n6_ := Aside0.mk ((by rw [hg]; exact Nat.ne_of_gt (blk_lt (g := gb614) (o := .cells #[.int .i64 a0_0, .slice A0_1 l0_1.length c0_1] 28 (0, 0)) (by (with_reducible repeat (first | refine blk_drewN ?_ _ | refine blk_drew ?_ | refine blk_alloc ?_ _)); exact BK614.out)) : gb615 ≠ gb614)); clear BK614; clear HB; have BK614 := n0_; have HB := n1_; have BK615 := n2_; have GW615 := n3_; have GE615 := n4_; have NB614_615 := n5_; have NB615_614 := n6_; clear n0_ n1_ n2_ n3_ n4_ n5_ n6_; clear hb hbox hg; have hnb5 := NB614_615.out; have hnc5 := NB615_614.out; have hcz6_0 : w4.cell? ⟨gb614, 0, none⟩ = some (.int .i64 a0_0) := (blk_cell BK614.out 0).trans rfl; have hcz6_1 : w4.cell? ⟨gb614, 1, none⟩ = some (.slice A0_1 l0_1.length c0_1) := (blk_cell BK614.out 1).trans rfl; have hfz6_0 := blk_frozen BK614.out 0; have hfz6_1 := blk_frozen BK614.out 1))
 go_loopg [10] k (fun kq v10 w' => ∃ (x10_1 : Int), v10 = .int .i64 x10_1 ∧ Aside0 (spec_gmBefore.l0 kq l0_1 (l0_1.length : Int) x10_1 a0_0 l0_1 a1_0 l1_1 = some r) ∧ Aside0 (kq ≤ k) ∧ Aside0 (w'.heap[gb614]? = some (.cells #[.int .i64 a0_0, (.slice A0_1 l0_1.length c0_1)] 28 (0, 0))) ∧ Aside0 (w'.heap[gb615]? = some (.cells #[.int .i64 a1_0, (.slice A1_1 l1_1.length c1_1)] 28 (0, 0))) ∧ Aside0 (Below w.heap.size w w'))
 case atStart => exact ⟨(0), (by first | rfl | (simp; done) | (simp [*]; done)), H', ⟨Nat.le_refl _⟩, ⟨by (with_reducible repeat (first | refine blk_drewN ?_ _ | refine blk_drew ?_ | refine blk_alloc ?_ _)); exact BK614.out⟩, ⟨by (with_reducible repeat (first | refine blk_drewN ?_ _ | refine blk_drew ?_ | refine blk_alloc ?_ _)); exact BK615.out⟩, ⟨by repeat (first | (with_reducible first | exact HB.out | apply below_alloc | apply pw_below_drewN | apply below_drew1 | refine below_set ?_ GE614.out | refine below_set ?_ GE615.out) | exact HB.out)⟩⟩
 case round =>
  clear H'
  try clear c1
  try clear p2
  try clear c5
  try clear hcz6_0
  try clear hcz6_1
  try clear hfz6_0
  try clear hfz6_1
  obtain ⟨x10_1, rfl, HA, HK1, BK614, BK615, HB⟩ := hrel
  cases gk with
  | zero => exact absurd HA.out (by simp [spec_gmBefore.l0])
  | succ k1 =>
   have H := HA.out
   clear HA
   simp only [spec_gmBefore.l0] at H
   by_cases c7 : x10_1 < (l0_1.length : Int)
   ·rw [if_pos c7] at H
    have c7b0 : decide (x10_1 < (l0_1.length : Int)) = true := decide_eq_true c7
    clear c7
    by_cases c8 : 0 ≤ x10_1
    ·rw [if_pos c8] at H
     have c8b0 : decide (0 ≤ x10_1) = true := decide_eq_true c8
     clear c8
     by_cases c9 : x10_1 < (l0_1.length : Int)
     ·rw [if_pos c9] at H
      have c9b0 : decide (x10_1 < (l0_1.length : Int)) = true := decide_eq_true c9
      clear c9
      by_cases c10 : x10_1 ≥ (l1_1.length : Int)
      ·rw [if_pos c10] at H
       have c10b0 : decide ((l1_1.length : Int) ≤ x10_1) = true := decide_eq_true c10
       clear c10
       obtain rfl := Option.some.inj H
       have p616 : 0 ≤ (x10_1 : Int) := of_decide_eq_true (by first | (with_reducible assumption) | assumption)
       have q616 : x10_1 < (l0_1.length : Int) := of_decide_eq_true (by first | (with_reducible assumption) | assumption)
       obtain ⟨ad616, A616_0, c616_0, e616, hx616_0, hl616_0, hi616_0⟩ := at_L1 HR0_1.out x10_1 p616 q616
       cases e616
       replace hx616_0 := (HB.out.cell (World.block_lt_of_cell? w _ hx616_0)).trans hx616_0
       have HR616_0 := Aside0.mk hi616_0
       have HC616_0 := Aside0.mk hl616_0
       clear hi616_0 hl616_0
       replace p616 := eq_true p616
       replace q616 := eq_true q616
       have hnb11 := NB615_614.out
       have hnc11 := NB614_615.out
       have hcz12_0 : wr.cell? ⟨gb615, 0, none⟩ = some (.int .i64 a1_0) := (blk_cell BK615.out 0).trans rfl
       have hcz12_1 : wr.cell? ⟨gb615, 1, none⟩ = some (.slice A1_1 l1_1.length c1_1) := (blk_cell BK615.out 1).trans rfl
       have hfz12_0 := blk_frozen BK615.out 0
       have hfz12_1 := blk_frozen BK615.out 1
       go_wp2
       go_ret
       exact ⟨by first | rfl | (simp [errW_none, errW_some] <;> rfl) | (simp [*, errW_none, errW_some] <;> rfl), by repeat (first | (with_reducible first | exact HB.out | apply below_alloc | apply pw_below_drewN | apply below_drew1 | refine below_set ?_ GE614.out | refine below_set ?_ GE615.out) | exact HB.out)⟩
      ·rw [if_neg c10] at H
       have c10b0 : decide ((l1_1.length : Int) ≤ x10_1) = false := decide_eq_false c10
       clear c10
       by_cases c13 : x10_1 < (l1_1.length : Int)
       ·rw [if_pos c13] at H
        have c13b0 : decide (x10_1 < (l1_1.length : Int)) = true := decide_eq_true c13
        clear c13
        replace H := Option.bind_eq_some_iff.mp H
        obtain ⟨t618, A140, H⟩ := H
        replace H : (if t618 = true then (some true) else ((spec_voBefore.f k1 (rd_L1 l1_1 x10_1) (rd_L1 l0_1 x10_1)).bind fun t620 => (if t620 = true then (some false) else (spec_gmBefore.l0 k1 l0_1 (l0_1.length : Int) (wrap64 (x10_1 + 1)) a0_0 l0_1 a1_0 l1_1)))) = some r := H
        have A14 := Aside0.mk A140
        clear A140
        by_cases c15 : t618 = true
        ·subst c15
         have H1 : (some true) = some r := by rw [if_pos rfl] at H; exact H
         clear H
         have H := H1
         clear H1
         obtain rfl := Option.some.inj H
         have p616 : 0 ≤ (x10_1 : Int) := of_decide_eq_true (by first | (with_reducible assumption) | assumption)
         have q616 : x10_1 < (l0_1.length : Int) := of_decide_eq_true (by first | (with_reducible assumption) | assumption)
         obtain ⟨ad616, A616_0, c616_0, e616, hx616_0, hl616_0, hi616_0⟩ := at_L1 HR0_1.out x10_1 p616 q616
         cases e616
         replace hx616_0 := (HB.out.cell (World.block_lt_of_cell? w _ hx616_0)).trans hx616_0
         have HR616_0 := Aside0.mk hi616_0
         have HC616_0 := Aside0.mk hl616_0
         clear hi616_0 hl616_0
         replace p616 := eq_true p616
         replace q616 := eq_true q616
         have hnb16 := NB615_614.out
         have hnc16 := NB614_615.out
         have hcz17_0 : wr.cell? ⟨gb615, 0, none⟩ = some (.int .i64 a1_0) := (blk_cell BK615.out 0).trans rfl
         have hcz17_1 : wr.cell? ⟨gb615, 1, none⟩ = some (.slice A1_1 l1_1.length c1_1) := (blk_cell BK615.out 1).trans rfl
         have hfz17_0 := blk_frozen BK615.out 0
         have hfz17_1 := blk_frozen BK615.out 1
         have p617 : 0 ≤ (x10_1 : Int) := of_decide_eq_true (by first | (with_reducible assumption) | assumption)
         have q617 : x10_1 < (l1_1.length : Int) := of_decide_eq_true (by first | (with_reducible assumption) | assumption)
         obtain ⟨ad617, A617_0, c617_0, e617, hx617_0, hl617_0, hi617_0⟩ := at_L1 HR1_1.out x10_1 p617 q617
         cases e617
         replace hx617_0 := (HB.out.cell (World.block_lt_of_cell? w _ hx617_0)).trans hx617_0
         have HR617_0 := Aside0.mk hi617_0
         have HC617_0 := Aside0.mk hl617_0
         clear hi617_0 hl617_0
         replace p617 := eq_true p617
         replace q617 := eq_true q617
         go_wp2_with (first | ((with_reducible refine gate_callee (f := 103) rfl ?_); refine goesL_ (some 26) rfl rfl Tryz.func103 (by kernel_rfl) rfl #[.slice A616_0 (rd_L1 l0_1 x10_1).length c616_0, .slice A617_0 (rd_L1 l1_1 x10_1).length c617_0] rfl (by (try simp only [List.map_toArray, List.map_cons, List.map_nil]); first | done | rfl | (simp only [List.length_drop, List.length_take]; rfl)) ?_; (with_reducible refine (spec_voBefore.calls k1 _ _ (rd_L1 l0_1 x10_1) _ _ (rd_L1 l1_1 x10_1) true _ ?side1 ?side2 ?side3 ?side4 A14.out).mono ?_); (case side1 => repeat (first | exact (Kd.C_below HR616_0.out HB.out) | (with_reducible refine Kd.C_alloc ?_ _) | (with_reducible refine Kd.C_drewN ?_ _) | (with_reducible refine Kd.C_drew ?_))); (case side2 => exact HC616_0.out); (case side3 => repeat (first | exact (Kd.C_below HR617_0.out HB.out) | (with_reducible refine Kd.C_alloc ?_ _) | (with_reducible refine Kd.C_drewN ?_ _) | (with_reducible refine Kd.C_drew ?_))); (case side4 => exact HC617_0.out); rintro e w' ⟨rfl, ⟨nd, rfl⟩⟩; refine ⟨_, rfl, ?_⟩))
         go_ret
         exact ⟨by first | rfl | (simp [errW_none, errW_some] <;> rfl) | (simp [*, errW_none, errW_some] <;> rfl), by repeat (first | (with_reducible first | exact HB.out | apply below_alloc | apply pw_below_drewN | apply below_drew1 | refine below_set ?_ GE614.out | refine below_set ?_ GE615.out) | exact HB.out)⟩
        ·replace c15 := Bool.eq_false_iff.mpr c15
         subst c15
         have H1 : ((spec_voBefore.f k1 (rd_L1 l1_1 x10_1) (rd_L1 l0_1 x10_1)).bind fun t620 => (if t620 = true then (some false) else (spec_gmBefore.l0 k1 l0_1 (l0_1.length : Int) (wrap64 (x10_1 + 1)) a0_0 l0_1 a1_0 l1_1))) = some r := by rw [if_neg (show ¬ (false = true) by decide)] at H; exact H
         clear H
         have H := H1
         clear H1
         replace H := Option.bind_eq_some_iff.mp H
         obtain ⟨t620, A180, H⟩ := H
         replace H : (if t620 = true then (some false) else (spec_gmBefore.l0 k1 l0_1 (l0_1.length : Int) (wrap64 (x10_1 + 1)) a0_0 l0_1 a1_0 l1_1)) = some r := H
         have A18 := Aside0.mk A180
         clear A180
         by_cases c19 : t620 = true
         ·subst c19
          have H1 : (some false) = some r := by rw [if_pos rfl] at H; exact H
          clear H
          have H := H1
          clear H1
          obtain rfl := Option.some.inj H
          have p616 : 0 ≤ (x10_1 : Int) := of_decide_eq_true (by first | (with_reducible assumption) | assumption)
          have q616 : x10_1 < (l0_1.length : Int) := of_decide_eq_true (by first | (with_reducible assumption) | assumption)
          obtain ⟨ad616, A616_0, c616_0, e616, hx616_0, hl616_0, hi616_0⟩ := at_L1 HR0_1.out x10_1 p616 q616
          cases e616
          replace hx616_0 := (HB.out.cell (World.block_lt_of_cell? w _ hx616_0)).trans hx616_0
          have HR616_0 := Aside0.mk hi616_0
          have HC616_0 := Aside0.mk hl616_0
          clear hi616_0 hl616_0
          replace p616 := eq_true p616
          replace q616 := eq_true q616
          have hnb20 := NB615_614.out
          have hnc20 := NB614_615.out
          have hcz21_0 : wr.cell? ⟨gb615, 0, none⟩ = some (.int .i64 a1_0) := (blk_cell BK615.out 0).trans rfl
          have hcz21_1 : wr.cell? ⟨gb615, 1, none⟩ = some (.slice A1_1 l1_1.length c1_1) := (blk_cell BK615.out 1).trans rfl
          have hfz21_0 := blk_frozen BK615.out 0
          have hfz21_1 := blk_frozen BK615.out 1
          have p617 : 0 ≤ (x10_1 : Int) := of_decide_eq_true (by first | (with_reducible assumption) | assumption)
          have q617 : x10_1 < (l1_1.length : Int) := of_decide_eq_true (by first | (with_reducible assumption) | assumption)
          obtain ⟨ad617, A617_0, c617_0, e617, hx617_0, hl617_0, hi617_0⟩ := at_L1 HR1_1.out x10_1 p617 q617
          cases e617
          replace hx617_0 := (HB.out.cell (World.block_lt_of_cell? w _ hx617_0)).trans hx617_0
          have HR617_0 := Aside0.mk hi617_0
          have HC617_0 := Aside0.mk hl617_0
          clear hi617_0 hl617_0
          replace p617 := eq_true p617
          replace q617 := eq_true q617
          go_wp2_with (first | ((with_reducible refine gate_callee (f := 103) rfl ?_); refine goesL_ (some 26) rfl rfl Tryz.func103 (by kernel_rfl) rfl #[.slice A616_0 (rd_L1 l0_1 x10_1).length c616_0, .slice A617_0 (rd_L1 l1_1 x10_1).length c617_0] rfl (by (try simp only [List.map_toArray, List.map_cons, List.map_nil]); first | done | rfl | (simp only [List.length_drop, List.length_take]; rfl)) ?_; (with_reducible refine (spec_voBefore.calls k1 _ _ (rd_L1 l0_1 x10_1) _ _ (rd_L1 l1_1 x10_1) false _ ?side1 ?side2 ?side3 ?side4 A14.out).mono ?_); (case side1 => repeat (first | exact (Kd.C_below HR616_0.out HB.out) | (with_reducible refine Kd.C_alloc ?_ _) | (with_reducible refine Kd.C_drewN ?_ _) | (with_reducible refine Kd.C_drew ?_))); (case side2 => exact HC616_0.out); (case side3 => repeat (first | exact (Kd.C_below HR617_0.out HB.out) | (with_reducible refine Kd.C_alloc ?_ _) | (with_reducible refine Kd.C_drewN ?_ _) | (with_reducible refine Kd.C_drew ?_))); (case side4 => exact HC617_0.out); rintro e w' ⟨rfl, ⟨nd, rfl⟩⟩; refine ⟨_, rfl, ?_⟩; have p619 : 0 ≤ (x10_1 : Int) := of_decide_eq_true (by first | (with_reducible assumption) | assumption); have q619 : x10_1 < (l1_1.length : Int) := of_decide_eq_true (by first | (with_reducible assumption) | assumption); obtain ⟨ad619, A619_0, c619_0, e619, hx619_0, hl619_0, hi619_0⟩ := at_L1 HR1_1.out x10_1 p619 q619; obtain rfl : ad617 = ad619 := (by injection e619); replace hx619_0 := (HB.out.cell (World.block_lt_of_cell? w _ hx619_0)).trans hx619_0; have HR619_0 := Aside0.mk hi619_0; have HC619_0 := Aside0.mk hl619_0; clear hi619_0 hl619_0; replace p619 := eq_true p619; replace q619 := eq_true q619; have ea_ := Option.some.inj (hx617_0.symm.trans hx619_0); injection ea_ with ea_ en_ ec_; subst ea_; subst ec_; clear en_) | ((with_reducible refine gate_callee (f := 103) rfl ?_); refine goesL_ (some 33) rfl rfl Tryz.func103 (by kernel_rfl) rfl #[.slice A617_0 (rd_L1 l1_1 x10_1).length c617_0, .slice A616_0 (rd_L1 l0_1 x10_1).length c616_0] rfl (by (try simp only [List.map_toArray, List.map_cons, List.map_nil]); first | done | rfl | (simp only [List.length_drop, List.length_take]; rfl)) ?_; (with_reducible refine (spec_voBefore.calls k1 _ _ (rd_L1 l1_1 x10_1) _ _ (rd_L1 l0_1 x10_1) true _ ?side1 ?side2 ?side3 ?side4 A18.out).mono ?_); (case side1 => repeat (first | exact (Kd.C_below HR619_0.out (by repeat (first | (with_reducible first | exact HB.out | apply below_alloc | apply pw_below_drewN | apply below_drew1 | refine below_set ?_ GE614.out | refine below_set ?_ GE615.out) | exact HB.out))) | (with_reducible refine Kd.C_alloc ?_ _) | (with_reducible refine Kd.C_drewN ?_ _) | (with_reducible refine Kd.C_drew ?_))); (case side2 => exact HC619_0.out); (case side3 => repeat (first | exact (Kd.C_below HR616_0.out (by repeat (first | (with_reducible first | exact HB.out | apply below_alloc | apply pw_below_drewN | apply below_drew1 | refine below_set ?_ GE614.out | refine below_set ?_ GE615.out) | exact HB.out))) | (with_reducible refine Kd.C_alloc ?_ _) | (with_reducible refine Kd.C_drewN ?_ _) | (with_reducible refine Kd.C_drew ?_))); (case side4 => exact HC616_0.out); rintro e w' ⟨rfl, ⟨nd, rfl⟩⟩; refine ⟨_, rfl, ?_⟩))
          go_ret
          exact ⟨by first | rfl | (simp [errW_none, errW_some] <;> rfl) | (simp [*, errW_none, errW_some] <;> rfl), by repeat (first | (with_reducible first | exact HB.out | apply below_alloc | apply pw_below_drewN | apply below_drew1 | refine below_set ?_ GE614.out | refine below_set ?_ GE615.out) | exact HB.out)⟩
         ·replace c19 := Bool.eq_false_iff.mpr c19
          subst c19
          have H1 : (spec_gmBefore.l0 k1 l0_1 (l0_1.length : Int) (wrap64 (x10_1 + 1)) a0_0 l0_1 a1_0 l1_1) = some r := by rw [if_neg (show ¬ (false = true) by decide)] at H; exact H
          clear H
          have H := H1
          clear H1
          have H' := Aside0.mk H
          clear H
          have p616 : 0 ≤ (x10_1 : Int) := of_decide_eq_true (by first | (with_reducible assumption) | assumption)
          have q616 : x10_1 < (l0_1.length : Int) := of_decide_eq_true (by first | (with_reducible assumption) | assumption)
          obtain ⟨ad616, A616_0, c616_0, e616, hx616_0, hl616_0, hi616_0⟩ := at_L1 HR0_1.out x10_1 p616 q616
          cases e616
          replace hx616_0 := (HB.out.cell (World.block_lt_of_cell? w _ hx616_0)).trans hx616_0
          have HR616_0 := Aside0.mk hi616_0
          have HC616_0 := Aside0.mk hl616_0
          clear hi616_0 hl616_0
          replace p616 := eq_true p616
          replace q616 := eq_true q616
          have hnb22 := NB615_614.out
          have hnc22 := NB614_615.out
          have hcz23_0 : wr.cell? ⟨gb615, 0, none⟩ = some (.int .i64 a1_0) := (blk_cell BK615.out 0).trans rfl
          have hcz23_1 : wr.cell? ⟨gb615, 1, none⟩ = some (.slice A1_1 l1_1.length c1_1) := (blk_cell BK615.out 1).trans rfl
          have hfz23_0 := blk_frozen BK615.out 0
          have hfz23_1 := blk_frozen BK615.out 1
          have p617 : 0 ≤ (x10_1 : Int) := of_decide_eq_true (by first | (with_reducible assumption) | assumption)
          have q617 : x10_1 < (l1_1.length : Int) := of_decide_eq_true (by first | (with_reducible assumption) | assumption)
          obtain ⟨ad617, A617_0, c617_0, e617, hx617_0, hl617_0, hi617_0⟩ := at_L1 HR1_1.out x10_1 p617 q617
          cases e617
          replace hx617_0 := (HB.out.cell (World.block_lt_of_cell? w _ hx617_0)).trans hx617_0
          have HR617_0 := Aside0.mk hi617_0
          have HC617_0 := Aside0.mk hl617_0
          clear hi617_0 hl617_0
          replace p617 := eq_true p617
          replace q617 := eq_true q617
          go_wp2_with (first | ((with_reducible refine gate_callee (f := 103) rfl ?_); refine goesL_ (some 26) rfl rfl Tryz.func103 (by kernel_rfl) rfl #[.slice A616_0 (rd_L1 l0_1 x10_1).length c616_0, .slice A617_0 (rd_L1 l1_1 x10_1).length c617_0] rfl (by (try simp only [List.map_toArray, List.map_cons, List.map_nil]); first | done | rfl | (simp only [List.length_drop, List.length_take]; rfl)) ?_; (with_reducible refine (spec_voBefore.calls k1 _ _ (rd_L1 l0_1 x10_1) _ _ (rd_L1 l1_1 x10_1) false _ ?side1 ?side2 ?side3 ?side4 A14.out).mono ?_); (case side1 => repeat (first | exact (Kd.C_below HR616_0.out HB.out) | (with_reducible refine Kd.C_alloc ?_ _) | (with_reducible refine Kd.C_drewN ?_ _) | (with_reducible refine Kd.C_drew ?_))); (case side2 => exact HC616_0.out); (case side3 => repeat (first | exact (Kd.C_below HR617_0.out HB.out) | (with_reducible refine Kd.C_alloc ?_ _) | (with_reducible refine Kd.C_drewN ?_ _) | (with_reducible refine Kd.C_drew ?_))); (case side4 => exact HC617_0.out); rintro e w' ⟨rfl, ⟨nd, rfl⟩⟩; refine ⟨_, rfl, ?_⟩; have p619 : 0 ≤ (x10_1 : Int) := of_decide_eq_true (by first | (with_reducible assumption) | assumption); have q619 : x10_1 < (l1_1.length : Int) := of_decide_eq_true (by first | (with_reducible assumption) | assumption); obtain ⟨ad619, A619_0, c619_0, e619, hx619_0, hl619_0, hi619_0⟩ := at_L1 HR1_1.out x10_1 p619 q619; obtain rfl : ad617 = ad619 := (by injection e619); replace hx619_0 := (HB.out.cell (World.block_lt_of_cell? w _ hx619_0)).trans hx619_0; have HR619_0 := Aside0.mk hi619_0; have HC619_0 := Aside0.mk hl619_0; clear hi619_0 hl619_0; replace p619 := eq_true p619; replace q619 := eq_true q619; have ea_ := Option.some.inj (hx617_0.symm.trans hx619_0); injection ea_ with ea_ en_ ec_; subst ea_; subst ec_; clear en_) | ((with_reducible refine gate_callee (f := 103) rfl ?_); refine goesL_ (some 33) rfl rfl Tryz.func103 (by kernel_rfl) rfl #[.slice A617_0 (rd_L1 l1_1 x10_1).length c617_0, .slice A616_0 (rd_L1 l0_1 x10_1).length c616_0] rfl (by (try simp only [List.map_toArray, List.map_cons, List.map_nil]); first | done | rfl | (simp only [List.length_drop, List.length_take]; rfl)) ?_; (with_reducible refine (spec_voBefore.calls k1 _ _ (rd_L1 l1_1 x10_1) _ _ (rd_L1 l0_1 x10_1) false _ ?side1 ?side2 ?side3 ?side4 A18.out).mono ?_); (case side1 => repeat (first | exact (Kd.C_below HR619_0.out (by repeat (first | (with_reducible first | exact HB.out | apply below_alloc | apply pw_below_drewN | apply below_drew1 | refine below_set ?_ GE614.out | refine below_set ?_ GE615.out) | exact HB.out))) | (with_reducible refine Kd.C_alloc ?_ _) | (with_reducible refine Kd.C_drewN ?_ _) | (with_reducible refine Kd.C_drew ?_))); (case side2 => exact HC619_0.out); (case side3 => repeat (first | exact (Kd.C_below HR616_0.out (by repeat (first | (with_reducible first | exact HB.out | apply below_alloc | apply pw_below_drewN | apply below_drew1 | refine below_set ?_ GE614.out | refine below_set ?_ GE615.out) | exact HB.out))) | (with_reducible refine Kd.C_alloc ?_ _) | (with_reducible refine Kd.C_drewN ?_ _) | (with_reducible refine Kd.C_drew ?_))); (case side4 => exact HC616_0.out); rintro e w' ⟨rfl, ⟨nd, rfl⟩⟩; refine ⟨_, rfl, ?_⟩))
          go_roundg k1
          case measure => have := HK1.out; omega
          case rel => exact ⟨(wrap64 (x10_1 + 1)), (by first | rfl | (simp; done) | (simp [*]; done)), H', ⟨by have := HK1.out; omega⟩, ⟨by (with_reducible repeat (first | refine blk_drewN ?_ _ | refine blk_drew ?_ | refine blk_alloc ?_ _)); exact BK614.out⟩, ⟨by (with_reducible repeat (first | refine blk_drewN ?_ _ | refine blk_drew ?_ | refine blk_alloc ?_ _)); exact BK615.out⟩, ⟨by repeat (first | (with_reducible first | exact HB.out | apply below_alloc | apply pw_below_drewN | apply below_drew1 | refine below_set ?_ GE614.out | refine below_set ?_ GE615.out) | exact HB.out)⟩⟩
       ·rw [if_neg c13] at H
        exact absurd H (by simp)
     ·rw [if_neg c9] at H
      exact absurd H (by simp)
    ·rw [if_neg c8] at H
     exact absurd H (by simp)
   ·rw [if_neg c7] at H
    have c7b0 : decide (x10_1 < (l0_1.length : Int)) = false := decide_eq_false c7
    clear c7
    obtain rfl := Option.some.inj H
    have hnb24 := NB614_615.out
    have hnc24 := NB615_614.out
    have hcz25_0 : wr.cell? ⟨gb614, 0, none⟩ = some (.int .i64 a0_0) := (blk_cell BK614.out 0).trans rfl
    have hcz25_1 : wr.cell? ⟨gb614, 1, none⟩ = some (.slice A0_1 l0_1.length c0_1) := (blk_cell BK614.out 1).trans rfl
    have hfz25_0 := blk_frozen BK614.out 0
    have hfz25_1 := blk_frozen BK614.out 1
    have hcz26_0 : wr.cell? ⟨gb615, 0, none⟩ = some (.int .i64 a1_0) := (blk_cell BK615.out 0).trans rfl
    have hcz26_1 : wr.cell? ⟨gb615, 1, none⟩ = some (.slice A1_1 l1_1.length c1_1) := (blk_cell BK615.out 1).trans rfl
    have hfz26_0 := blk_frozen BK615.out 0
    have hfz26_1 := blk_frozen BK615.out 1
    go_wp2
    go_ret
    exact ⟨by first | rfl | (simp [errW_none, errW_some] <;> rfl) | (simp [*, errW_none, errW_some] <;> rfl), by repeat (first | (with_reducible first | exact HB.out | apply below_alloc | apply pw_below_drewN | apply below_drew1 | refine below_set ?_ GE614.out | refine below_set ?_ GE615.out) | exact HB.out)⟩
end Go.Proofs.YtnncjnjfdhbddaaGreat.Z
namespace Go.Proofs.YtnncjnjfdhbddaaGreat.Z
open Go.RowKit Go.Proofs.YtnncjnjfdhbddaaGreatW.PrintWords Go.Proofs.YtnncjnjfdhbddaaGreatW.PrintLast Go.Proofs.YtnncjnjfdhbddaaGreatW.PrintMore
attribute [local go_sem] max2_int min2_int max_two min_two max_three min_three max_four min_four
set_option linter.unusedVariables false
set_option linter.unusedSimpArgs false
def befG (g h : S28) : Bool := decide (cmpLL g.f1 h.f1 < 0)
def befLL (a b : List (List Int)) : Bool := decide (cmpLL a b < 0)
theorem befLL_nil (b : List (List Int)) : befLL [] b = decide (0 < b.length) := by cases b <;> simp [befLL, cmpLL, lexC]
theorem befLL_nil2 (x : List Int) (a : List (List Int)) : befLL (x :: a) [] = false := by simp [befLL, cmpLL, lexC]
theorem befLL_cons (x y : List Int) (a b : List (List Int)) : befLL (x :: a) (y :: b) = if befB x y then true else if befB y x then false else befLL a b := by
 have h1 := Cmp.L.anti x y
 have h2 := Cmp.L.anti y x
 simp only [befLL, cmpLL, lexC, befB]
 by_cases h : cmpL x y = 0
 ·have h3 : cmpL y x = 0 := by omega
  simp only [h, h3, if_true, Int.lt_irrefl, decide_false, if_false, Bool.false_eq_true]
  exact decide_eq_decide.2 Iff.rfl
 ·by_cases hlt : cmpL x y < 0
  ·simp [h, hlt]
  ·have h4 : cmpL y x < 0 := by omega
   simp [h, hlt, h4]
theorem dropLL_cons (l : List (List Int)) (j : Nat) (h : j < l.length) : l.drop j = l.getD j [] :: l.drop (j + 1) := by
 rw [List.drop_eq_getElem_cons h]
 simp [List.getD_eq_getElem?_getD, h]
theorem rdL1_nat (l : List (List Int)) (j : Nat) : rd_L1 l (j : Int) = l.getD j [] := rfl
theorem voBefore_any (x y : List Int) (hx : x.length ≤ 9) (k : Nat) (hk : 20 ≤ k) : spec_voBefore.f k x y = some (befB x y) :=
 at_rounds (fun k => spec_voBefore.mono x y k) (show 2 * x.length + 2 ≤ k by omega) (voBefore_f x y (by omega))
theorem gmBefore_l (a b : List (List Int)) (ha : a.length ≤ 1000) (hs : ∀ x ∈ a, x.length ≤ 9) (hs2 : ∀ x ∈ b, x.length ≤ 9) (x1 x2 : Int) : ∀ (d j : Nat), j + d = a.length → spec_gmBefore.l0 (d + 21) a (a.length : Int) (j : Int) x1 a x2 b = some (befLL (a.drop j) (b.drop j))
 | 0, j, h => by
  rw [spec_gmBefore.l0, if_neg (by omega), List.drop_eq_nil_of_le (show a.length ≤ j by omega), befLL_nil, List.length_drop]
  congr 1
  simp only [decide_eq_decide]
  omega
 | d + 1, j, h => by
  have hj : j < a.length := by omega
  rw [show d + 1 + 21 = (d + 21) + 1 by omega, spec_gmBefore.l0, if_pos (by omega), if_pos (by omega), if_pos (by omega), dropLL_cons a j hj, rdL1_nat, rdL1_nat]
  have h1 : (a.getD j []).length ≤ 9 := hs _ (by simp [List.getD_eq_getElem?_getD, hj])
  by_cases hb : j < b.length
  ·have h2 : (b.getD j []).length ≤ 9 := hs2 _ (by simp [List.getD_eq_getElem?_getD, hb])
   rw [if_neg (by omega), if_pos (by omega), dropLL_cons b j hb, befLL_cons, voBefore_any _ _ h1 _ (by omega), voBefore_any _ _ h2 _ (by omega), Option.bind_some, Option.bind_some, wrap64_nat1 j (by omega), gmBefore_l a b ha hs hs2 x1 x2 d (j + 1) (by omega)]
   cases befB (a.getD j []) (b.getD j []) <;> cases befB (b.getD j []) (a.getD j []) <;> simp
  ·rw [if_pos (by omega), List.drop_eq_nil_of_le (show b.length ≤ j by omega), befLL_nil2]
theorem gmBefore_f (a b : List (List Int)) (ha : a.length ≤ 1000) (hs : ∀ x ∈ a, x.length ≤ 9) (hs2 : ∀ x ∈ b, x.length ≤ 9) (n m : Int) : spec_gmBefore.f (a.length + 21) n a m b = some (befLL a b) := by
 have := gmBefore_l a b ha hs hs2 n m a.length 0 (by omega)
 simpa [spec_gmBefore.f] using this
end Go.Proofs.YtnncjnjfdhbddaaGreat.Z
namespace Go.Proofs.YtnncjnjfdhbddaaGreat.Z
open Go.RowKit Go.Proofs.YtnncjnjfdhbddaaGreatW.PrintWords Go.Proofs.YtnncjnjfdhbddaaGreatW.PrintLast Go.Proofs.YtnncjnjfdhbddaaGreatW.PrintMore
attribute [local go_sem] max2_int min2_int max_two min_two max_three min_three max_four min_four
set_option linter.unusedVariables false
set_option linter.unusedSimpArgs false
def leastV (wins : List Bool) (m : Nat) : Bool := wins.getD m false && (setN m).all fun i => !(wins.getD (m - 2 ^ i) false)
theorem pow_facts (i kk : Nat) (h1 : i < 9) (h2 : 2 ^ i ≤ kk) : ∃ p : Nat, p = 2 ^ i ∧ wrap64 (2 ^ i) = (p : Int) ∧ wrap64 (2 ^ min i 64) = (p : Int) ∧ p ≤ kk ∧ p ≤ 512 := by
 have hw := wrap_pow (n := i) (N := 2 ^ i) (by omega) rfl
 refine ⟨2 ^ i, rfl, hw, ?_, h2, pow_le9 (by omega)⟩
 rw [show min i 64 = i from Nat.min_eq_left (by omega)]
 exact hw
set_option maxRecDepth 100000 in
set_option maxHeartbeats 8000000 in
theorem voLeast_any (wins : List Bool) (hw : wins.length ≤ 512) (A : Option Addr) (c : Nat) (w : World) (hr : Kd.C Kd.bool w A wins.length wins) :
  Calls Tryz.prog 154 #[.slice A wins.length c] w fun e w' => ∃ v, e = .returned v ∧ Kd.R (Kd.slice 3 (Kd.int .i64)) 36 w' w.heap.size (fun _ => True) v (srtP befB (partS (leastV wins) wins.length)) ∧ Below w.heap.size w w' := by
 have HR := Aside0.mk hr
 obtain ⟨N, hN⟩ : ∃ N, N = wins.length := ⟨_, rfl⟩
 have HN := Aside0.mk hN
 rw [← hN] at hw ⊢
 clear hr hN
 go_enter Tryz.func154, Tryz.ntmps154
 go_wp2
 go_loopg [3, 4, 5, 6, 8, 11] N (fun gg s3 _ _ _ _ s11 wr => ∃ kk : Nat, kk ≤ N ∧ N - kk ≤ gg ∧ s11 = .int .i64 kk ∧ Aside0 (Below w.heap.size w wr) ∧ Aside0 (Kd.R (Kd.slice 3 (Kd.int .i64)) 36 wr w.heap.size (fun _ => True) s3 (partS (leastV wins) kk)))
 case atStart => exact ⟨0, Nat.zero_le _, by omega, rfl, ⟨Below.refl _ _⟩, ⟨Kd.R_nil _ _ _ _ _⟩⟩
 case round =>
  obtain ⟨kk, hkk, hg, rfl, BW, HO⟩ := hrel
  by_cases hlt : kk < N
  ·have hltz : (kk : Int) < (N : Int) := by omega
   have h0z : (0 : Int) ≤ (kk : Int) := by omega
   obtain ⟨ad, e, hcell⟩ := Kd.at_bool (Kd.C_below HR.out BW.out) (kk : Int) h0z (by have := HN.out; omega)
   subst e
   have hrd : rdOf false wins (kk : Int) = wins.getD kk false := by simp [rdOf]
   rw [hrd, Int.toNat_natCast] at hcell
   cases hb : wins.getD kk false with
   | false =>
    rw [hb] at hcell
    have HB := Aside0.mk hb
    clear hb hrd
    go_wp2
    go_roundg (N - (kk + 1))
    case measure => omega
    case rel =>
     have e1 : leastV wins kk = false := by rw [leastV, HB.out]; rfl
     exact ⟨kk + 1, by omega, by omega, by go_num, BW, ⟨by rw [partS_no e1]; exact HO.out⟩⟩
   | true =>
    rw [hb] at hcell
    have HB := Aside0.mk hb
    clear hb hrd
    have hvl := fun w => spec_voList.calls (kk : Int) (setI kk) w (by rw [spec_voList.f, if_pos ⟨by omega, by omega⟩, Int.toNat_natCast])
    have HVL := Aside0.mk hvl
    clear hvl
    go_wp2_with (go_at_call 96; refine (HVL.out _).mono ?_; rintro e w2 ⟨v2, rfl, ho, hb2⟩; obtain ⟨A2, c2, rfl, hl2, hC2⟩ := Kd.R_reads ho; have HC2 := Aside0.mk hC2; have HB2 := Aside0.mk hb2; clear ho hb2 hC2 hl2)
    have hml : (setI kk).length = (setN kk).length := by simp [setI]
    have hmn : ∀ j, j < (setN kk).length → rd (setI kk) (j : Int) = (((setN kk).getD j 0 : Nat) : Int) := fun j hj => by simp [rd, setI, List.getD_eq_getElem?_getD, hj]
    have hmb : ∀ j, j < (setN kk).length → (setN kk).getD j 0 < 9 ∧ 2 ^ (setN kk).getD j 0 ≤ kk := fun j hj => by
     have h1 : (setN kk).getD j 0 ∈ setN kk := by simp [List.getD_eq_getElem?_getD, hj]
     have h2 := (List.mem_filter.1 h1).2
     have h3 := Nat.ge_two_pow_of_testBit h2
     refine ⟨?_, h3⟩
     rcases Nat.lt_or_ge ((setN kk).getD j 0) 9 with h | h
     ·exact h
     ·have := Nat.pow_le_pow_right (n := 2) (by decide) h
      omega
    obtain ⟨M, hM⟩ : ∃ M, M = (setI kk).length := ⟨_, rfl⟩
    rw [← hM] at HC2 hml ⊢
    have hM62 : M ≤ 62 := by rw [hml, setN]; exact Nat.le_trans (List.length_filter_le _ _) (by simp)
    have HMN := Aside0.mk hmn
    have HMB := Aside0.mk hmb
    have HML := Aside0.mk hml
    have HM := Aside0.mk hM
    clear hmn hmb hml hM
    go_loopg [6, 8, 21] M (fun gg s6 _ s21 wq => ∃ j : Nat, j ≤ M ∧ M - j ≤ gg ∧ s21 = .int .i64 j ∧ s6 = .bool (((setN kk).take j).all fun i => !(wins.getD (kk - 2 ^ i) false)) ∧ Aside0 (Below w.heap.size w wq) ∧ Aside0 (Kd.R (Kd.slice 3 (Kd.int .i64)) 36 wq w.heap.size (fun _ => True) u3 (partS (leastV wins) kk)) ∧ Aside0 (Kd.C (Kd.int .i64) wq A2 M (setI kk)))
    case atStart => exact ⟨0, Nat.zero_le _, by omega, rfl, by simp, ⟨Below.trans BW.out (HB2.out.mono BW.out.size)⟩, ⟨Kd.R_below HO.out HB2.out⟩, HC2⟩
    case round =>
     clear BW HO HC2
     obtain ⟨j, hj, hg2, rfl, rfl, BW, HO, HC2⟩ := hrel
     by_cases hjl : j < M
     ·have hjz : (j : Int) < (M : Int) := by omega
      have hjz0 : (0 : Int) ≤ (j : Int) := by omega
      obtain ⟨ad2, e, hcell2⟩ := Kd.at_int HC2.out (j : Int) hjz0 (by omega)
      subst e
      have hjm : j < (setN kk).length := by have := HML.out; omega
      rw [HMN.out j hjm, Int.toNat_natCast] at hcell2
      have hib := HMB.out j hjm
      have htk : (setN kk).take (j + 1) = (setN kk).take j ++ [(setN kk).getD j 0] := by rw [List.take_succ_eq_append_getElem hjm]; simp [List.getD_eq_getElem?_getD, hjm]
      generalize (setN kk).getD j 0 = i at *
      have HTK := Aside0.mk htk
      clear htk hjm
      obtain ⟨p, hp, hw1, hw2, hpk, hp9⟩ := pow_facts i kk hib.1 hib.2
      have hi0 : (0 : Int) ≤ (i : Int) := Int.natCast_nonneg _
      have HW := Aside0.mk (And.intro hw1 hw2)
      clear hw1 hw2
      obtain ⟨x, hx⟩ : ∃ x, x = kk - p := ⟨_, rfl⟩
      have hsub : (kk : Int) - (p : Int) = (x : Int) := by omega
      have hxN : x < N := by omega
      obtain ⟨ad3, e3, hcell3⟩ := Kd.at_bool (Kd.C_below HR.out BW.out) (x : Int) (by omega) (by have := HN.out; omega)
      cases e3
      have hrd : rdOf false wins (x : Int) = wins.getD (kk - 2 ^ i) false := by simp [rdOf, hx, hp]
      rw [hrd, Int.toNat_natCast] at hcell3
      generalize hbb : wins.getD (kk - 2 ^ i) false = b2 at *
      have HBB := Aside0.mk hbb
      have hx0 : (0 : Int) ≤ (x : Int) := by omega
      have hxz : (x : Int) < (N : Int) := by omega
      clear hrd hbb hp hx hib
      generalize hacc : ((setN kk).take j).all (fun i => !(wins.getD (kk - 2 ^ i) false)) = acc at *
      have HACC := Aside0.mk hacc
      clear hacc
      have hw1 := HW.out.1
      have hw2 := HW.out.2
      cases acc with
      | false =>
       go_wp2
       clear hw1 hw2 hsub
       go_roundg (M - (j + 1))
       case measure => omega
       case rel =>
        refine ⟨j + 1, by omega, by omega, by go_num, ?_, BW, HO, HC2⟩
        rw [HTK.out, List.all_append, HACC.out]; rfl
      | true =>
       go_wp2
       clear hw1 hw2 hsub
       go_roundg (M - (j + 1))
       case measure => omega
       case rel =>
        refine ⟨j + 1, by omega, by omega, by go_num, ?_, BW, HO, HC2⟩
        rw [HTK.out, List.all_append, HACC.out]
        simp only [List.all_cons, List.all_nil, HBB.out, Bool.true_and, Bool.and_true]
     ·have hjz : ¬ (j : Int) < (M : Int) := by omega
      obtain rfl : j = M := by omega
      have htk : (setN kk).take j = setN kk := List.take_of_length_le (by rw [HML.out]; exact Nat.le_refl _)
      rw [htk]
      have hpl := partS_len (leastV wins) kk
      cases hq : (setN kk).all (fun i => !(wins.getD (kk - 2 ^ i) false)) with
      | false =>
       have e1 : leastV wins kk = false := by rw [leastV, HB.out, hq]; rfl
       have E1 := Aside0.mk e1
       clear hq htk e1
       go_wp2
       go_roundg (N - (kk + 1))
       case measure => omega
       case rel =>
        exact ⟨kk + 1, by omega, by omega, by go_num, BW, ⟨by rw [partS_no E1.out]; exact HO.out⟩⟩
      | true =>
       have e1 : leastV wins kk = true := by rw [leastV, HB.out, hq]; rfl
       have E1 := Aside0.mk e1
       clear hq htk e1
       go_wp2_with (first | (go_at_call 96; refine (HVL.out _).mono ?_; rintro e w2 ⟨v2, rfl, ho2, hb2⟩; obtain ⟨A2, c2, rfl⟩ := Kd.R_slice ho2; have HO2 := Aside0.mk ho2; have HB2 := Aside0.mk hb2; clear ho2 hb2) | ((with_reducible refine gate_builtin (b := .append) (xs := #[.tmp 38, .tmp 41]) rfl ?_); at_builtin; refine Kd.R_append (Kd.slice 3 (Kd.int .i64)) (w0 := w) w.heap.size rfl (.tmp 38) (.tmp 41) 22 36 (.slice none 0 0) 24 rfl Tryz.underlying22 infoS rfl (by decide) (by omega) u3 (partS (leastV wins) kk) (setI kk) [.slice A2 (setI kk).length c2] (fun _ => True) (fun k_ => some k_ = (.slice A2 (setI kk).length c2 : Value).ownBlock) rfl rfl ?aP ?aQ (fun _ _ => trivial) ?aO ?aB ?aS (by omega) ?_; (case aP => exact Kd.M_row (Kd.R_tight rfl (Kd.R_lower HO2.out BW.out.size))); (case aQ => exact fun k hk => ⟨trivial, fun e => by have h1 := Kd.R_base HO2.out k hk.symm; have h2 := Kd.R_lt HO.out k e.symm; omega⟩); (case aO => exact Kd.R_below HO.out HB2.out); (case aB => exact Below.trans BW.out (HB2.out.mono BW.out.size)); (case aS => exact Nat.le_trans BW.out.size HB2.out.size); intro v3 w3 ho hb hg hat; have HO3 := Aside0.mk ho; have HB3 := Aside0.mk hb; clear ho hb hg hat))
       go_roundg (N - (kk + 1))
       case measure => omega
       case rel => exact ⟨kk + 1, by omega, by omega, by go_num, HB3, ⟨by rw [partS_yes E1.out]; exact HO3.out⟩⟩
  ·have hltz : ¬ (kk : Int) < (N : Int) := by omega
   obtain rfl : kk = N := by omega
   have hpl := partS_len (leastV wins) kk
   have ho := HO.out
   obtain ⟨A3, c3, hs3⟩ := Kd.R_slice ho
   subst hs3
   have hvs := voSorted_any w.heap.size (partS (leastV wins) kk) (by omega) (fun x hx => by
    obtain ⟨m, _, rfl⟩ := List.mem_map.1 hx
    rw [setI, List.length_map, setN]
    exact Nat.le_trans (List.length_filter_le _ _) (by simp)) A3 c3 _ BW.out.size ho
   have HVS := Aside0.mk hvs
   clear hvs ho
   go_wp2_with (go_at_call 97; refine HVS.out.mono ?_; rintro e w5 ⟨v5, rfl, ho5, hb5⟩; have HO5 := Aside0.mk ho5; have HB5 := Aside0.mk hb5; clear ho5 hb5)
   go_ret
   exact ⟨_, rfl, HO5.out, Below.trans BW.out (HB5.out.mono BW.out.size)⟩
def spec_voLeast.f (l0 : List Bool) : Option (List (List Int)) := if l0.length ≤ 512 then some (srtP befB (partS (leastV l0) l0.length)) else none
theorem spec_voLeast.calls (A0 : Option Addr) (c0 : Nat) (l0 : List Bool) (r : List (List Int)) (w : World) (hr0 : Kd.C Kd.bool w A0 l0.length l0) (hc0 : l0.length ≤ c0) (h : spec_voLeast.f l0 = some r) :
  Calls Tryz.prog 154 #[.slice A0 l0.length c0] w fun e w' => ∃ v0_ : Value, e = .returned (v0_) ∧ Kd.R (Kd.slice 3 (Kd.int .i64)) 36 w' w.heap.size (fun _ => True) v0_ r ∧ Below w.heap.size w w' := by
 unfold spec_voLeast.f at h
 split at h
 ·rename_i hl
  obtain rfl := Option.some.inj h
  exact voLeast_any l0 hl A0 c0 w hr0
 ·cases h
end Go.Proofs.YtnncjnjfdhbddaaGreat.Z
namespace Go.Proofs.YtnncjnjfdhbddaaGreat.Z
open Go.RowKit Go.Proofs.YtnncjnjfdhbddaaGreatW.PrintWords Go.Proofs.YtnncjnjfdhbddaaGreatW.PrintLast Go.Proofs.YtnncjnjfdhbddaaGreatW.PrintMore
attribute [local go_sem] max2_int min2_int max_two min_two max_three min_three max_four min_four
set_option linter.unusedVariables false
set_option linter.unusedSimpArgs false
def leastL (wins : List Bool) : List (List Int) := srtP befB (partS (leastV wins) wins.length)
set_option maxHeartbeats 1000000 in
theorem gmOf_any (n : Int) (wins : List Bool) (hw : wins.length ≤ 512) (A : Option Addr) (c : Nat) (w : World) (hr : Kd.C Kd.bool w A wins.length wins) (hc : wins.length ≤ c) :
  Calls Tryz.prog 128 #[.int .i64 n, .slice A wins.length c] w fun e w' => ∃ v, e = .returned (.agg #[.int .i64 n, v]) ∧ Kd.R (Kd.slice 3 (Kd.int .i64)) 36 w' w.heap.size (fun _ => True) v (leastL wins) ∧ Below w.heap.size w w' := by
 have hu28 := Tryz.underlying28
 have hvl := fun W' (hB : Below w.heap.size w W') => spec_voLeast.calls A c wins (leastL wins) W' (Kd.C_below hr hB) hc (by rw [spec_voLeast.f, if_pos hw]; rfl)
 have HVL := Aside0.mk hvl
 clear hvl hr hc hw
 generalize leastL wins = ls at *
 generalize wins.length = L at *
 go_enter Tryz.func128, Tryz.ntmps128
 go_wp2_with (go_at_call 154; refine (HVL.out _ ((Below.refl _ _).alloc (Nat.le_refl _) _)).mono ?_; rintro e w2 ⟨v2, rfl, ho, hb⟩; have HO := Aside0.mk ho; have hy := blk_below (heap1_0 w _) hb; have HY := Aside0.mk hy; have hz : w.heap.size < w2.heap.size := blk_lt hy; have hy0 : w2.cell? ⟨w.heap.size, 0, none⟩ = some (.int .i64 0) := (blk_cell hy 0).trans rfl; have hy1 : w2.cell? ⟨w.heap.size, 1, none⟩ = some (.slice none 0 0) := (blk_cell hy 1).trans rfl; have hf0 := blk_frozen hy 0; have hf1 := blk_frozen hy 1; have HB := Aside0.mk (show Below w.heap.size w w2 from Below.trans ((Below.refl _ _).alloc (Nat.le_refl _) _) (hb.mono (by simp))); obtain ⟨A2, c2, e2⟩ := Kd.R_slice ho; subst e2; clear ho hb hy)
 refine bodyPost_ret (results_cell_row rfl _ _ w.heap.size 28 #[.int .i64 n, .slice A2 ls.length c2] (0, 0) _ rfl (blk_set (blk_set HY.out 0 _) 1 _) Tryz.underlying28 rfl (by kernel_rfl)) rfl ?_
 exact ⟨_, rfl, Kd.R_lower (Kd.R_set (Kd.R_set HO.out HY.out (by decide) 0 _) (blk_set HY.out 0 _) (by decide) 1 _) (by simp), (HB.out.setCell (Nat.le_refl _) _).setCell (Nat.le_refl _) _⟩
end Go.Proofs.YtnncjnjfdhbddaaGreat.Z
namespace Go.Proofs.YtnncjnjfdhbddaaGreat.Z
open Go.RowKit Go.Proofs.YtnncjnjfdhbddaaGreatW.PrintWords Go.Proofs.YtnncjnjfdhbddaaGreatW.PrintLast Go.Proofs.YtnncjnjfdhbddaaGreatW.PrintMore
attribute [local go_sem] max2_int min2_int max_two min_two max_three min_three max_four min_four
set_option linter.unusedVariables false
set_option linter.unusedSimpArgs false
theorem game_at {W : World} {base n c : Nat} {A : Option Addr} {xs : List S28} (h : Kd.R k28 28 W base (fun _ => True) (.slice A n c) xs) (k : Nat) (hk : k < n) :
  ∃ ad A1 c1, A = some ad ∧ W.cell? (ad.add (k * 2)) = some (.int .i64 (xs.getD k z28).f0) ∧ W.cell? ⟨(ad.add (k * 2)).block, (ad.add (k * 2)).off + 1, none⟩ = some (.slice A1 (xs.getD k z28).f1.length c1) ∧ (xs.getD k z28).f1.length ≤ c1 ∧ Kd.C (Kd.slice 3 (Kd.int .i64)) W A1 (xs.getD k z28).f1.length (xs.getD k z28).f1 ∧ k28.M W base (fun k => k < W.heap.size) (xs.getD k z28) [.int .i64 (xs.getD k z28).f0, .slice A1 (xs.getD k z28).f1.length c1] := by
 obtain ⟨hn, _⟩ := Kd.R_reads' h
 obtain ⟨A', c', he, _, hr⟩ := R_rowsM h
 injection he with e1 _ _
 subst e1
 obtain ⟨ad, cs, e, hs, hM, hc⟩ := hr.get_ z28 (k : Int) (by omega) (by omega)
 rw [Int.toNat_natCast] at hM hc
 obtain ⟨v, rfl, hR⟩ := k28_openM hM
 obtain ⟨A1, c1, rfl, hl, hC⟩ := Kd.R_reads hR
 have h1 := hc 0 _ rfl
 have h2 := hc 1 _ rfl
 have e1 : k28.sz = 2 := rfl
 rw [e1] at h1 h2
 rw [Nat.add_zero] at h1
 rw [add_field _ _ 1 (by omega)] at h2
 exact ⟨ad, A1, c1, e, h1, h2, hl, hC, k28_mkM _ _ _ _ hR⟩
theorem R_empty {α : Type} (d : Kd α) (e base : Nat) {W : World} {g : Nat} (hg : W.heap[g]? = some (.cells #[] e (0, 0))) (hb : base ≤ g) : d.R e W base (fun _ => True) (.slice (some ⟨g, 0, none⟩) 0 0) [] :=
 ⟨fun _ _ => trivial, [], ⟨by simp, .inr ⟨g, 0, #[], rfl, hb, hg, Nat.le_refl _, by simp [maxLen], by simp, by simp⟩⟩, Reps.none _ _⟩
theorem box_row {Rr : S28 → List Value → Prop} {W : World} {g : Nat} {x : S28} {v : Value} (hg : W.heap[g]? = some (.cells #[.int .i64 x.f0, v] 28 (0, 0))) (hR : Rr x [.int .i64 x.f0, v]) : ReadsRow Rr 2 W (some ⟨g, 0, none⟩) 1 [x] := by
 refine ⟨rfl, by omega, fun _ => ⟨_, rfl, fun j p hj => ?_⟩⟩
 cases j with
 | succ j => simp at hj
 | zero =>
  obtain rfl : x = p := by simpa using hj
  refine ⟨_, rfl, hR, fun i u hu => ?_⟩
  rw [Nat.zero_mul, Nat.zero_add, add_plain, blk_cell hg i, ← hu]
  simp
theorem cutG (A : Option Addr) (n c j : Nat) (hj : j ≤ n) (hc : n ≤ c) :
  (∀ W : World, (Instr.slice 53 (.slice A n c) none (some (.int .i64 (j : Int))) none).run Tryz.prog W = .ok (.slice A j c) W) ∧
  (∀ W : World, (Instr.slice 53 (.slice A n c) (some (.int .i64 (j : Int))) none none).run Tryz.prog W = .ok (.slice (if c = j then A else A.map (·.add (j * 2))) (n - j) (c - j)) W) := by
 obtain ⟨i, hi, hz⟩ := Option.map_eq_some_iff.1 infoG
 simp only [Prod.mk.injEq] at hz
 have h1 := cut_to (P := Tryz.prog) 53 28 .i64 Tryz.underlying53 hi A n c (j : Int) (by omega) (by omega) hc
 have h2 := cut_from (P := Tryz.prog) 53 28 .i64 Tryz.underlying53 hi 2 hz.2.1 A n c (j : Int) (by omega) (by omega)
 rw [Int.toNat_natCast] at h1 h2
 exact ⟨h1, h2⟩
end Go.Proofs.YtnncjnjfdhbddaaGreat.Z
namespace Go.Proofs.YtnncjnjfdhbddaaGreat.Z
open Go.RowKit Go.Proofs.YtnncjnjfdhbddaaGreatW.PrintWords Go.Proofs.YtnncjnjfdhbddaaGreatW.PrintLast Go.Proofs.YtnncjnjfdhbddaaGreatW.PrintMore
attribute [local go_sem] max2_int min2_int max_two min_two max_three min_three max_four min_four
set_option linter.unusedVariables false
set_option linter.unusedSimpArgs false
def impl_oneIf.f (a0 : Bool) : Option (Int) := if a0 = true then (some 1) else (some 0)
set_option maxHeartbeats 8000000 in
set_option maxRecDepth 100000 in
theorem impl_oneIf.calls (a0 : Bool) (r : Int) (w : World) (h : impl_oneIf.f a0 = some r) :
  Calls Tryz.prog 131 #[.bool a0] w fun e w' => e = .returned (.int .i64 r) ∧ Drawn0 w w' := by
 have H : (if a0 = true then (some 1) else (some 0)) = some r := h
 clear h
 by_cases c2 : a0 = true
 ·subst c2
  have H1 : (some 1) = some r := by rw [if_pos rfl] at H; exact H
  clear H
  have H := H1
  clear H1
  obtain rfl := Option.some.inj H
  go_enter Tryz.func131, Tryz.ntmps131
  go_wp2
  go_ret
  exact ⟨by first | rfl | (simp; done) | (simp [*]; done), by repeat (first | exact Drawn0.refl _ | apply Drawn0.step)⟩
 ·replace c2 := Bool.eq_false_iff.mpr c2
  subst c2
  have H1 : (some 0) = some r := by rw [if_neg (show ¬ (false = true) by decide)] at H; exact H
  clear H
  have H := H1
  clear H1
  obtain rfl := Option.some.inj H
  go_enter Tryz.func131, Tryz.ntmps131
  go_wp2
  go_ret
  exact ⟨by first | rfl | (simp; done) | (simp [*]; done), by repeat (first | exact Drawn0.refl _ | apply Drawn0.step)⟩
end Go.Proofs.YtnncjnjfdhbddaaGreat.Z
namespace Go.Proofs.YtnncjnjfdhbddaaGreat.Z
open Go.RowKit Go.Proofs.YtnncjnjfdhbddaaGreatW.PrintWords Go.Proofs.YtnncjnjfdhbddaaGreatW.PrintLast Go.Proofs.YtnncjnjfdhbddaaGreatW.PrintMore
attribute [local go_sem] max2_int min2_int max_two min_two max_three min_three max_four min_four
set_option linter.unusedVariables false
set_option linter.unusedSimpArgs false
def oneB (b : Bool) : Int := if b then 1 else 0
theorem oneIf_f (b : Bool) : impl_oneIf.f b = some (oneB b) := by cases b <;> rfl
theorem bel3 (w : World) (o1 o2 o3 : Obj) : Below w.heap.size w (((w.alloc o1).alloc o2).alloc o3) := ((Below.refl _ _).alloc (Nat.le_refl _) _ |>.alloc (by simp) _ |>.alloc (by simp; omega) _)
theorem cell3 {w : World} {p : Addr} {v : Value} (h : w.cell? p = some v) (o o' o'' : Obj) : (((w.alloc o).alloc o').alloc o'').cell? p = some v := ((bel3 w o o' o'').cell (World.block_lt_of_cell? w _ h)).trans h
set_option maxRecDepth 100000 in
set_option maxHeartbeats 1000000 in
theorem told_0 (n : Int) (A : Option Addr) (c : Nat) (wins : List Bool) (a : Nat) (ha : a < wins.length) (w : World) (hr : Kd.C Kd.bool w A wins.length wins) (hc : wins.length ≤ c) :
  Calls Tryz.prog 90 #[.agg #[.int .i64 n, .slice A wins.length c], .int .i64 0, .int .i64 (a : Int)] w fun e w' => e = .returned (.agg #[.int .i64 0, .int .i64 (a : Int), .int .i64 (oneB (wins.getD a false))]) ∧ Below w.heap.size w w' := by
 have hu68 := Tryz.underlying68
 have hu86 := Tryz.underlying86
 obtain ⟨ad, e, hcell⟩ := Kd.at_bool hr (a : Int) (by omega) (by omega)
 subst e
 have hrd : rdOf false wins (a : Int) = wins.getD a false := by simp [rdOf]
 rw [hrd, Int.toNat_natCast] at hcell
 generalize wins.getD a false = b at hcell
 have h0 : (0 : Int) ≤ (a : Int) := by omega
 have h1 : (a : Int) < (wins.length : Int) := by omega
 generalize wins.length = N at *
 clear hr hrd
 have HONE := Aside0.mk (fun w => impl_oneIf.calls b _ w (oneIf_f b))
 have hca2 := fun o o' o'' => cell3 hcell o o' o''
 go_enter Tryz.func90, Tryz.ntmps90
 go_wp2_with (go_at_call 131; refine (HONE.out _).mono ?_; rintro e w' ⟨rfl, hd⟩; obtain ⟨m, rfl⟩ := hd)
 refine bodyPost_ret (results_cell_row rfl _ _ (w.heap.size + 1) 86 #[.int .i64 0, .int .i64 (a : Int), .int .i64 (oneB b)] (0, 0) _ rfl (blk_set (blk_set (blk_set (blk_far (blk_far (blk_drewN (heap3_1 _ _ _ _) m) (by simp) _) (by simp) _) 0 _) 1 _) 2 _) Tryz.underlying86 rfl (by kernel_rfl)) rfl ?_
 exact ⟨rfl, ((((((pw_below_drewN (bel3 w _ _ _) m).setCell (by simp; omega) _).setCell (by simp; omega) _).setCell (by simp) _).setCell (by simp) _).setCell (by simp) _)⟩
set_option maxRecDepth 100000 in
set_option maxHeartbeats 1000000 in
theorem told_1 (n : Int) (A : Option Addr) (c N : Nat) (a q : Int) (w : World)
  (hq : ∀ W, Below w.heap.size w W → Calls Tryz.prog 132 #[.agg #[.int .i64 n, .slice A N c]] W fun e w' => e = .returned (.int .i64 q) ∧ Below W.heap.size W w') :
  Calls Tryz.prog 90 #[.agg #[.int .i64 n, .slice A N c], .int .i64 1, .int .i64 a] w fun e w' => e = .returned (.agg #[.int .i64 1, .int .i64 q, .int .i64 0]) ∧ Below w.heap.size w w' := by
 have hu68 := Tryz.underlying68
 have hu86 := Tryz.underlying86
 have HQ := Aside0.mk hq
 clear hq
 go_enter Tryz.func90, Tryz.ntmps90
 go_wp2_with (go_at_call 132; refine (HQ.out _ (bel3 w _ _ _)).mono ?_; rintro e w1 ⟨rfl, hb⟩; have hz := blk_below (heap3_2 w _ _ _) hb; have hz0 : w1.cell? ⟨w.heap.size + 1 + 1, 0, none⟩ = some (.int .i64 1) := (blk_cell hz 0).trans rfl; have hz1 : w1.cell? ⟨w.heap.size + 1 + 1, 1, none⟩ = some (.int .i64 0) := (blk_cell hz 1).trans rfl; have hz2 : w1.cell? ⟨w.heap.size + 1 + 1, 2, none⟩ = some (.int .i64 0) := (blk_cell hz 2).trans rfl; have hf0 := blk_frozen hz 0; have hf1 := blk_frozen hz 1; have hf2 := blk_frozen hz 2; have hy := blk_below (heap3_1 w _ _ _) hb; have hy0 := (blk_cell hy 0); have hg0 := blk_frozen hy 0; have hg1 := blk_frozen hy 1; have hg2 := blk_frozen hy 2; have hy1 := (blk_cell hy 1); have hy2 := (blk_cell hy 2); have HB := Aside0.mk hb; have HY := Aside0.mk hy; clear hb hz hy)
 refine bodyPost_ret (results_cell_row rfl _ _ (w.heap.size + 1) 86 #[.int .i64 1, .int .i64 q, .int .i64 0] (0, 0) _ rfl (blk_set (blk_set (blk_set (blk_far HY.out (by simp) _) 0 _) 1 _) 2 _) Tryz.underlying86 rfl (by kernel_rfl)) rfl ?_
 exact ⟨rfl, (((((Below.trans (bel3 w _ _ _) (HB.out.mono (by simp; omega))).setCell (by simp; omega) _).setCell (by simp) _).setCell (by simp) _).setCell (by simp) _)⟩
set_option maxRecDepth 100000 in
set_option maxHeartbeats 1000000 in
theorem told_4 (n : Int) (A : Option Addr) (c N : Nat) (a : Int) (q : Bool) (w : World)
  (hq : ∀ W, Below w.heap.size w W → Calls Tryz.prog 134 #[.agg #[.int .i64 n, .slice A N c]] W fun e w' => e = .returned (.bool q) ∧ Below W.heap.size W w') :
  Calls Tryz.prog 90 #[.agg #[.int .i64 n, .slice A N c], .int .i64 4, .int .i64 a] w fun e w' => e = .returned (.agg #[.int .i64 4, .int .i64 (oneB q), .int .i64 0]) ∧ Below w.heap.size w w' := by
 have hu68 := Tryz.underlying68
 have hu86 := Tryz.underlying86
 have HQ := Aside0.mk hq
 have HONE := Aside0.mk (fun w => impl_oneIf.calls q _ w (oneIf_f q))
 clear hq
 go_enter Tryz.func90, Tryz.ntmps90
 go_wp2_with (first | (go_at_call 134; refine (HQ.out _ (bel3 w _ _ _)).mono ?_; rintro e w1 ⟨rfl, hb⟩; have hz := blk_below (heap3_2 w _ _ _) hb; have hz0 : w1.cell? ⟨w.heap.size + 1 + 1, 0, none⟩ = some (.int .i64 4) := (blk_cell hz 0).trans rfl; have hz1 : w1.cell? ⟨w.heap.size + 1 + 1, 1, none⟩ = some (.int .i64 0) := (blk_cell hz 1).trans rfl; have hz2 : w1.cell? ⟨w.heap.size + 1 + 1, 2, none⟩ = some (.int .i64 0) := (blk_cell hz 2).trans rfl; have hf0 := blk_frozen hz 0; have hf1 := blk_frozen hz 1; have hf2 := blk_frozen hz 2; have hy := blk_below (heap3_1 w _ _ _) hb; have hy0 := (blk_cell hy 0); have hg0 := blk_frozen hy 0; have hg1 := blk_frozen hy 1; have hg2 := blk_frozen hy 2; have hy1 := (blk_cell hy 1); have hy2 := (blk_cell hy 2); have HB := Aside0.mk hb; have HY := Aside0.mk hy; clear hb hz hy) | (go_at_call 131; refine (HONE.out _).mono ?_; rintro e w' ⟨rfl, hd⟩; obtain ⟨m, rfl⟩ := hd))
 refine bodyPost_ret (results_cell_row rfl _ _ (w.heap.size + 1) 86 #[.int .i64 4, .int .i64 (oneB q), .int .i64 0] (0, 0) _ rfl (blk_set (blk_set (blk_set (blk_far (blk_drewN HY.out m) (by simp) _) 0 _) 1 _) 2 _) Tryz.underlying86 rfl (by kernel_rfl)) rfl ?_
 exact ⟨rfl, (((((pw_below_drewN (Below.trans (bel3 w _ _ _) (HB.out.mono (by simp; omega))) m).setCell (by simp; omega) _).setCell (by simp) _).setCell (by simp) _).setCell (by simp) _)⟩
set_option maxRecDepth 100000 in
set_option maxHeartbeats 1000000 in
theorem told_5 (n : Int) (A : Option Addr) (c N : Nat) (a : Int) (q : Bool) (w : World)
  (hq : ∀ W, Below w.heap.size w W → Calls Tryz.prog 135 #[.agg #[.int .i64 n, .slice A N c]] W fun e w' => e = .returned (.bool q) ∧ Below W.heap.size W w') :
  Calls Tryz.prog 90 #[.agg #[.int .i64 n, .slice A N c], .int .i64 5, .int .i64 a] w fun e w' => e = .returned (.agg #[.int .i64 5, .int .i64 (oneB q), .int .i64 0]) ∧ Below w.heap.size w w' := by
 have hu68 := Tryz.underlying68
 have hu86 := Tryz.underlying86
 have HQ := Aside0.mk hq
 have HONE := Aside0.mk (fun w => impl_oneIf.calls q _ w (oneIf_f q))
 clear hq
 go_enter Tryz.func90, Tryz.ntmps90
 go_wp2_with (first | (go_at_call 135; refine (HQ.out _ (bel3 w _ _ _)).mono ?_; rintro e w1 ⟨rfl, hb⟩; have hz := blk_below (heap3_2 w _ _ _) hb; have hz0 : w1.cell? ⟨w.heap.size + 1 + 1, 0, none⟩ = some (.int .i64 5) := (blk_cell hz 0).trans rfl; have hz1 : w1.cell? ⟨w.heap.size + 1 + 1, 1, none⟩ = some (.int .i64 0) := (blk_cell hz 1).trans rfl; have hz2 : w1.cell? ⟨w.heap.size + 1 + 1, 2, none⟩ = some (.int .i64 0) := (blk_cell hz 2).trans rfl; have hf0 := blk_frozen hz 0; have hf1 := blk_frozen hz 1; have hf2 := blk_frozen hz 2; have hy := blk_below (heap3_1 w _ _ _) hb; have hy0 := (blk_cell hy 0); have hg0 := blk_frozen hy 0; have hg1 := blk_frozen hy 1; have hg2 := blk_frozen hy 2; have hy1 := (blk_cell hy 1); have hy2 := (blk_cell hy 2); have HB := Aside0.mk hb; have HY := Aside0.mk hy; clear hb hz hy) | (go_at_call 131; refine (HONE.out _).mono ?_; rintro e w' ⟨rfl, hd⟩; obtain ⟨m, rfl⟩ := hd))
 refine bodyPost_ret (results_cell_row rfl _ _ (w.heap.size + 1) 86 #[.int .i64 5, .int .i64 (oneB q), .int .i64 0] (0, 0) _ rfl (blk_set (blk_set (blk_set (blk_far (blk_drewN HY.out m) (by simp) _) 0 _) 1 _) 2 _) Tryz.underlying86 rfl (by kernel_rfl)) rfl ?_
 exact ⟨rfl, (((((pw_below_drewN (Below.trans (bel3 w _ _ _) (HB.out.mono (by simp; omega))) m).setCell (by simp; omega) _).setCell (by simp) _).setCell (by simp) _).setCell (by simp) _)⟩
set_option maxRecDepth 100000 in
set_option maxHeartbeats 4000000 in
theorem told_3 (n : Int) (A : Option Addr) (c N : Nat) (a : Nat) (sw : List Int) (ha : a < sw.length) (w : World)
  (hq : ∀ W, Below w.heap.size w W → Calls Tryz.prog 133 #[.agg #[.int .i64 n, .slice A N c]] W fun e w' => ∃ v : Value, e = .returned v ∧ Kd.R (Kd.int .i64) 3 w' W.heap.size (fun _ => True) v sw ∧ Below W.heap.size W w') :
  Calls Tryz.prog 90 #[.agg #[.int .i64 n, .slice A N c], .int .i64 3, .int .i64 (a : Int)] w fun e w' => e = .returned (.agg #[.int .i64 3, .int .i64 (a : Int), .int .i64 (sw.getD a 0)]) ∧ Below w.heap.size w w' := by
 have hu68 := Tryz.underlying68
 have hu86 := Tryz.underlying86
 have HQ := Aside0.mk hq
 have h0 : (0 : Int) ≤ (a : Int) := by omega
 have h1 : (a : Int) < (sw.length : Int) := by omega
 have hrd : rd sw (a : Int) = sw.getD a 0 := by simp [rd]
 have HRD := Aside0.mk hrd
 obtain ⟨M, hM⟩ : ∃ M, M = sw.length := ⟨_, rfl⟩
 have HM := Aside0.mk hM
 rw [← hM] at ha h1
 obtain ⟨q, hqq⟩ : ∃ q, q = sw.getD a 0 := ⟨_, rfl⟩
 rw [← hqq] at HRD ⊢
 clear hq hrd hM hqq
 go_enter Tryz.func90, Tryz.ntmps90
 go_wp2
 go_region_law (first | (go_simp; go_at_call 133; refine (HQ.out _ (pw_below_drewN (bel3 w _ _ _) _)).mono ?_; rintro e w1 ⟨v1, rfl, ho, hb⟩; obtain ⟨g, cap, e1, hg1, hg2, _⟩ := Kd.R_form ho (by have := HM.out; omega); rw [← HM.out] at e1; subst e1; obtain ⟨ad', e', hcell⟩ := Kd.at_int (Kd.R_reads' ho).2.2 (a : Int) h0 (by have := HM.out; omega); cases e'; rw [HRD.out] at hcell; replace hcell : w1.cell? ⟨g, a, none⟩ = some (.int .i64 q) := ((congrArg w1.cell? (show (⟨g, 0, none⟩ : Addr).add (a : Int).toNat = ⟨g, a, none⟩ by rw [Int.toNat_natCast]; cases a <;> simp [Addr.add])).symm.trans hcell); have hz := blk_below (blk_drewN (heap3_2 w _ _ _) _) hb; have hz0 : w1.cell? ⟨w.heap.size + 1 + 1, 0, none⟩ = some (.int .i64 3) := (blk_cell hz 0).trans rfl; have hz1 : w1.cell? ⟨w.heap.size + 1 + 1, 1, none⟩ = some (.int .i64 0) := (blk_cell hz 1).trans rfl; have hz2 : w1.cell? ⟨w.heap.size + 1 + 1, 2, none⟩ = some (.int .i64 0) := (blk_cell hz 2).trans rfl; have hf0 := blk_frozen hz 0; have hf1 := blk_frozen hz 1; have hf2 := blk_frozen hz 2; have hy := blk_below (blk_drewN (heap3_1 w _ _ _) _) hb; have hy0 := (blk_cell hy 0); have hg0 := blk_frozen hy 0; have hgg1 := blk_frozen hy 1; have hgg2 := blk_frozen hy 2; have hy1 := (blk_cell hy 1); have hy2 := (blk_cell hy 2); have hne : g ≠ w.heap.size + 1 + 1 := (by simp at hg1; omega); have hx := blk_below (blk_drewN (heap3_0 w _ _ _) _) hb; have hx0 : w1.cell? ⟨w.heap.size, 0, none⟩ = some (.int .i64 n) := (blk_cell hx 0).trans rfl; have hx1 : w1.cell? ⟨w.heap.size, 1, none⟩ = some (.slice A N c) := (blk_cell hx 1).trans rfl; have hk0 : ∀ (W : World) i u, (W.setCell ⟨w.heap.size + 1 + 1, i, none⟩ u).cell? ⟨w.heap.size, 0, none⟩ = W.cell? ⟨w.heap.size, 0, none⟩ := (fun W i u => World.cell?_setCell_far _ _ _ _ (by simp; omega)); have hk1 : ∀ (W : World) i u, (W.setCell ⟨w.heap.size + 1 + 1, i, none⟩ u).cell? ⟨w.heap.size, 1, none⟩ = W.cell? ⟨w.heap.size, 1, none⟩ := (fun W i u => World.cell?_setCell_far _ _ _ _ (by simp; omega)); have hkc : ∀ (W : World) i u, (W.setCell ⟨w.heap.size + 1 + 1, i, none⟩ u).cell? ⟨g, a, none⟩ = W.cell? ⟨g, a, none⟩ := (fun W i u => World.cell?_setCell_far _ _ _ _ (Ne.symm hne)); have HB := Aside0.mk hb; have HY := Aside0.mk hy; clear hb hz hy hx ho))
 all_goals go_wp2
 all_goals
  refine bodyPost_ret (results_cell_row rfl _ _ (w.heap.size + 1) 86 #[.int .i64 3, .int .i64 (a : Int), .int .i64 q] (0, 0) _ rfl (blk_set (blk_set (blk_set (blk_far (blk_far HY.out (by simp) _) (by simp) _) 0 _) 1 _) 2 _) Tryz.underlying86 rfl (by kernel_rfl)) rfl ?_
  exact ⟨rfl, ((((((Below.trans (pw_below_drewN (bel3 w _ _ _) _) (HB.out.mono (by simp; omega))).setCell (by simp; omega) _).setCell (by simp; omega) _).setCell (by simp) _).setCell (by simp) _).setCell (by simp) _)⟩
set_option maxRecDepth 100000 in
set_option maxHeartbeats 4000000 in
theorem told_2 (n : Nat) (A : Option Addr) (c : Nat) (wins : List Bool) (a x : Nat) (M B : Int) (hx : x < wins.length) (w : World)
  (hr : Kd.C Kd.bool w A wins.length wins) (ha : a ≤ 9) (hB : wrap64 (2 ^ a) = B) (hxe : Go.bits .andNot .i64 M B = (x : Int))
  (hq : ∀ W, Below w.heap.size w W → Calls Tryz.prog 119 #[.agg #[.int .i64 (n : Int), .slice A wins.length c]] W fun e w' => e = .returned (.int .i64 M) ∧ Below W.heap.size W w') :
  Calls Tryz.prog 90 #[.agg #[.int .i64 (n : Int), .slice A wins.length c], .int .i64 2, .int .i64 (a : Int)] w fun e w' => e = .returned (.agg #[.int .i64 2, .int .i64 (a : Int), .int .i64 (oneB (!(wins.getD x false)))]) ∧ Below w.heap.size w w' := by
 have hu68 := Tryz.underlying68
 have hu86 := Tryz.underlying86
 obtain ⟨ad, e, hcell⟩ := Kd.at_bool hr (x : Int) (by omega) (by omega)
 subst e
 have hrd : rdOf false wins (x : Int) = wins.getD x false := by simp [rdOf]
 rw [hrd, Int.toNat_natCast] at hcell
 generalize wins.getD x false = b at hcell
 have h0 : (0 : Int) ≤ (x : Int) := by omega
 have h1 : (x : Int) < (wins.length : Int) := by omega
 have h2 : (0 : Int) ≤ (a : Int) := by omega
 have hB1 : wrap64 (2 ^ min a 64) = B := by rw [show min a 64 = a by omega]; exact hB
 have hB2 : IntKind.i64.wrap (2 ^ min a 64) = B := (i64_w _).trans hB1
 have hB3 : IntKind.i64.wrap (2 ^ a) = B := (i64_w _).trans hB
 generalize wins.length = N at *
 have HQ := Aside0.mk hq
 have HC := Aside0.mk hcell
 have hc3 := fun o o' o'' => cell3 hcell o o' o''
 have HONE := Aside0.mk (fun w => impl_oneIf.calls (!b) _ w (oneIf_f (!b)))
 clear hq hr hrd
 go_enter Tryz.func90, Tryz.ntmps90
 go_wp2
 go_region_held3 (fun w' => w'.cell? ⟨w.heap.size, 0, none⟩ = some (.int .i64 (n : Int)) ∧ w'.cell? ⟨w.heap.size, 1, none⟩ = some (.slice (some ad) N c) ∧ w'.cell? (ad.add x) = some (.bool b)) (go_keep)
  (first | (go_at_call 119; refine (HQ.out _ (pw_below_drewN (bel3 w _ _ _) _)).mono ?_; rintro e w1 ⟨rfl, hb⟩; have hc1 : w1.cell? (ad.add x) = some (.bool b) := ((Below.trans (pw_below_drewN (bel3 w _ _ _) _) (hb.mono (by simp; omega))).cell (World.block_lt_of_cell? _ _ HC.out)).trans HC.out; have hz := blk_below (blk_drewN (heap3_2 w _ _ _) _) hb; have hz0 : w1.cell? ⟨w.heap.size + 1 + 1, 0, none⟩ = some (.int .i64 2) := (blk_cell hz 0).trans rfl; have hz1 : w1.cell? ⟨w.heap.size + 1 + 1, 1, none⟩ = some (.int .i64 0) := (blk_cell hz 1).trans rfl; have hz2 : w1.cell? ⟨w.heap.size + 1 + 1, 2, none⟩ = some (.int .i64 0) := (blk_cell hz 2).trans rfl; have hf0 := blk_frozen hz 0; have hf1 := blk_frozen hz 1; have hf2 := blk_frozen hz 2; have hy := blk_below (blk_drewN (heap3_1 w _ _ _) _) hb; have hy0 := (blk_cell hy 0); have hg0 := blk_frozen hy 0; have hgg1 := blk_frozen hy 1; have hgg2 := blk_frozen hy 2; have hy1 := (blk_cell hy 1); have hy2 := (blk_cell hy 2); have hx := blk_below (blk_drewN (heap3_0 w _ _ _) _) hb; have hx0 : w1.cell? ⟨w.heap.size, 0, none⟩ = some (.int .i64 (n : Int)) := (blk_cell hx 0).trans rfl; have hx1 : w1.cell? ⟨w.heap.size, 1, none⟩ = some (.slice (some ad) N c) := (blk_cell hx 1).trans rfl; have hk0 : ∀ (W : World) i u, (W.setCell ⟨w.heap.size + 1 + 1, i, none⟩ u).cell? ⟨w.heap.size, 0, none⟩ = W.cell? ⟨w.heap.size, 0, none⟩ := (fun W i u => World.cell?_setCell_far _ _ _ _ (by simp; omega)); have hk1 : ∀ (W : World) i u, (W.setCell ⟨w.heap.size + 1 + 1, i, none⟩ u).cell? ⟨w.heap.size, 1, none⟩ = W.cell? ⟨w.heap.size, 1, none⟩ := (fun W i u => World.cell?_setCell_far _ _ _ _ (by simp; omega)); have hkc : ∀ (W : World) i u, (W.setCell ⟨w.heap.size + 1 + 1, i, none⟩ u).cell? (ad.add x) = W.cell? (ad.add x) := (fun W i u => World.cell?_setCell_far _ _ _ _ (by have := World.block_lt_of_cell? _ _ HC.out; simp only; omega)); have HB := Aside0.mk hb; have HY := Aside0.mk hy; clear hb hz hy hx) | (go_at_call 131; refine (HONE.out _).mono ?_; rintro e w' ⟨rfl, hd⟩; obtain ⟨m, rfl⟩ := hd))
 all_goals go_wp2
 all_goals
  refine bodyPost_ret (results_cell_row rfl _ _ (w.heap.size + 1) 86 #[.int .i64 2, .int .i64 (a : Int), .int .i64 (oneB (!b))] (0, 0) _ rfl (blk_set (blk_set (blk_set (blk_far (blk_far (blk_drewN HY.out m) (by simp) _) (by simp) _) 0 _) 1 _) 2 _) Tryz.underlying86 rfl (by kernel_rfl)) rfl ?_
  exact ⟨rfl, ((((((pw_below_drewN (Below.trans (pw_below_drewN (bel3 w _ _ _) _) (HB.out.mono (by simp; omega))) m).setCell (by simp; omega) _).setCell (by simp; omega) _).setCell (by simp) _).setCell (by simp) _).setCell (by simp) _)⟩
end Go.Proofs.YtnncjnjfdhbddaaGreat.Z
namespace Go.Proofs.YtnncjnjfdhbddaaGreat.Z
open Go.RowKit Go.Proofs.YtnncjnjfdhbddaaGreatW.PrintWords Go.Proofs.YtnncjnjfdhbddaaGreatW.PrintLast Go.Proofs.YtnncjnjfdhbddaaGreatW.PrintMore
attribute [local go_sem] max2_int min2_int max_two min_two max_three min_three max_four min_four
set_option linter.unusedVariables false
set_option linter.unusedSimpArgs false
def idxI {α : Type} (p : α → Bool) (l : List α) : Int := if l.any p then (l.findIdx p : Int) else -1
theorem idxI_hit {α : Type} (p : α → Bool) (l : List α) (d : α) (k : Nat) (h : k < l.length) (hk : p (l.getD k d) = true) (ha : ∀ j, j < k → p (l.getD j d) = false) : idxI p l = k := by
 have e : l.findIdx p = k := by
  rw [List.findIdx_eq h]
  refine ⟨by simpa [List.getD_eq_getElem?_getD, h] using hk, fun j hj => ?_⟩
  have := ha j hj
  simpa [List.getD_eq_getElem?_getD, Nat.lt_trans hj h] using this
 have a : l.any p = true := List.any_eq_true.2 ⟨l.getD k d, by simp [List.getD_eq_getElem?_getD, h], hk⟩
 rw [idxI, if_pos a, e]
theorem idxI_miss {α : Type} (p : α → Bool) (l : List α) (d : α) (ha : ∀ j, j < l.length → p (l.getD j d) = false) : idxI p l = -1 := by
 rw [idxI, if_neg]
 intro h
 obtain ⟨x, hx, hp⟩ := List.any_eq_true.1 h
 obtain ⟨j, hj, rfl⟩ := List.mem_iff_getElem.1 hx
 have := ha j hj
 simp [List.getD_eq_getElem?_getD, hj, hp] at this
theorem idxI_nonneg {α : Type} (p : α → Bool) (l : List α) : decide (0 ≤ idxI p l) = l.any p := by
 unfold idxI
 cases h : l.any p <;> simp
end Go.Proofs.YtnncjnjfdhbddaaGreat.Z
namespace Go.Proofs.YtnncjnjfdhbddaaGreat.Z
open Go.RowKit Go.Proofs.YtnncjnjfdhbddaaGreatW.PrintWords Go.Proofs.YtnncjnjfdhbddaaGreatW.PrintLast Go.Proofs.YtnncjnjfdhbddaaGreatW.PrintMore
attribute [local go_sem] max2_int min2_int max_two min_two max_three min_three max_four min_four
set_option linter.unusedVariables false
set_option linter.unusedSimpArgs false
set_option maxHeartbeats 4000000 in
theorem indexFunc_cl (p : S86 → Bool) (g : Nat) (cb : Array Value) (A : Option Addr) (c : Nat) (l : List S86) (w : World)
  (eg : ∀ args w, (callFunc g args).run Tryz.prog w = .ok (.enter g args) w)
  (hr : Kd.C k86 w A l.length l)
  (hp : ∀ W x, x ∈ l → Below w.heap.size w W → Calls Tryz.prog g (#[.agg #[.int .i64 x.f0, .int .i64 x.f1, .int .i64 x.f2]] ++ cb) W fun e w' => e = .returned (.bool (p x)) ∧ Below W.heap.size W w') :
  Calls Tryz.prog 130 #[.slice A l.length c, .func (.func g) #[] cb] w fun e w' => e = .returned (.int .i64 (idxI p l)) ∧ Below w.heap.size w w' := by
 have HR := Aside0.mk hr
 have HP := Aside0.mk hp
 have hm := hr.2.1
 have hu := Tryz.underlying86
 clear hr hp
 go_enter Tryz.func130, Tryz.ntmps130
 go_wp2
 go_loopg [5, 8] l.length (fun gg _ s8 wr => ∃ kk : Nat, kk ≤ l.length ∧ l.length - kk ≤ gg ∧ s8 = .int .i64 kk ∧ Aside0 (Below w.heap.size w wr) ∧ Aside0 (∀ j, j < kk → p (l.getD j z86) = false))
 case atStart => exact ⟨0, Nat.zero_le _, by omega, rfl, ⟨Below.refl _ w⟩, ⟨fun j hj => absurd hj (Nat.not_lt_zero _)⟩⟩
 case round =>
  obtain ⟨kk, hkk, hg, rfl, BW, HA⟩ := hrel
  by_cases hlt : kk < l.length
  ·have hltz : (kk : Int) < (l.length : Int) := by omega
   have h0z : (0 : Int) ≤ (kk : Int) := by omega
   obtain ⟨ad, e, hc0, hc1, hc2⟩ := at_T86 (Kd.C_below HR.out BW.out) (kk : Int) (by omega) hltz
   subst e
   rw [Int.toNat_natCast] at hc0 hc1 hc2
   have hy0 : rd_T86 l (kk : Int) = l.getD kk z86 := by simp [rd_T86]
   have hmem : l.getD kk z86 ∈ l := by simp [List.getD_eq_getElem?_getD, hlt]
   rw [hy0] at hc0 hc1 hc2
   have hcall := HP.out wr _ hmem BW.out
   clear hy0 hmem HR HP
   generalize hy : l.getD kk z86 = y at *
   have B := Aside0.mk hy
   clear hy
   cases hq : p y with
   | true =>
    rw [hq] at hcall
    have Q := Aside0.mk hq
    clear hq
    go_wp2_with (go_at_fn g; refine hcall.mono ?_; rintro e w' ⟨rfl, hb'⟩)
    go_ret
    refine ⟨?_, Below.trans BW.out (hb'.mono BW.out.size)⟩
    rw [idxI_hit p l z86 kk hlt (by rw [B.out]; exact Q.out) HA.out]
    rfl
   | false =>
    rw [hq] at hcall
    have Q := Aside0.mk hq
    clear hq
    go_wp2_with (go_at_fn g; refine hcall.mono ?_; rintro e w' ⟨rfl, hb'⟩)
    go_roundg (l.length - (kk + 1))
    case measure => omega
    case rel =>
     refine ⟨kk + 1, by omega, by omega, by go_num, ⟨Below.trans BW.out (hb'.mono BW.out.size)⟩, ⟨fun j hj => ?_⟩⟩
     by_cases e : j = kk
     ·subst e
      rw [B.out]; exact Q.out
     ·exact HA.out j (by omega)
  ·have hltz : ¬ (kk : Int) < (l.length : Int) := by omega
   have : kk = l.length := by omega
   subst this
   go_wp2
   go_ret
   refine ⟨?_, BW.out⟩
   rw [idxI_miss p l z86 HA.out]
   rfl
set_option maxHeartbeats 2000000 in
theorem containsFunc_cl (p : S86 → Bool) (g : Nat) (cb : Array Value) (A : Option Addr) (c : Nat) (l : List S86) (w : World)
  (eg : ∀ args w, (callFunc g args).run Tryz.prog w = .ok (.enter g args) w)
  (hr : Kd.C k86 w A l.length l)
  (hp : ∀ W x, x ∈ l → Below w.heap.size w W → Calls Tryz.prog g (#[.agg #[.int .i64 x.f0, .int .i64 x.f1, .int .i64 x.f2]] ++ cb) W fun e w' => e = .returned (.bool (p x)) ∧ Below W.heap.size W w') :
  Calls Tryz.prog 88 #[.slice A l.length c, .func (.func g) #[] cb] w fun e w' => e = .returned (.bool (l.any p)) ∧ Below w.heap.size w w' := by
 rw [← idxI_nonneg]
 have hI := indexFunc_cl p g cb A c l w eg hr hp
 generalize idxI p l = i at hI
 go_enter Tryz.func88, Tryz.ntmps88
 go_wp2_with (go_at_call 130; refine hI.mono ?_; rintro e w' ⟨rfl, hb'⟩)
 go_ret
 exact ⟨rfl, hb'⟩
end Go.Proofs.YtnncjnjfdhbddaaGreat.Z
namespace Go.Proofs.YtnncjnjfdhbddaaGreat.Z
open Go.RowKit Go.Proofs.YtnncjnjfdhbddaaGreatW.PrintWords Go.Proofs.YtnncjnjfdhbddaaGreatW.PrintLast Go.Proofs.YtnncjnjfdhbddaaGreatW.PrintMore
attribute [local go_sem] max2_int min2_int max_two min_two max_three min_three max_four min_four
set_option linter.unusedVariables false
set_option linter.unusedSimpArgs false
def impl_within.f (a0 : Int) (a1 : Int) (a2 : Int) : Option (Bool) := if a0 ≥ a1 then (some (decide (a0 ≤ a2))) else (some false)
set_option maxHeartbeats 8000000 in
set_option maxRecDepth 100000 in
theorem impl_within.calls (a0 : Int) (a1 : Int) (a2 : Int) (r : Bool) (w : World) (h : impl_within.f a0 a1 a2 = some r) :
  Calls Tryz.prog 108 #[.int .i64 a0, .int .i64 a1, .int .i64 a2] w fun e w' => e = .returned (.bool r) ∧ Drawn0 w w' := by
 have H : (if a0 ≥ a1 then (some (decide (a0 ≤ a2))) else (some false)) = some r := h
 clear h
 by_cases c4 : a0 ≥ a1
 ·rw [if_pos c4] at H
  have c4b0 : decide (a1 ≤ a0) = true := decide_eq_true c4
  clear c4
  obtain rfl := Option.some.inj H
  go_enter Tryz.func108, Tryz.ntmps108
  go_wp2
  go_ret
  exact ⟨by first | rfl | (simp; done) | (simp [*]; done), by repeat (first | exact Drawn0.refl _ | apply Drawn0.step)⟩
 ·rw [if_neg c4] at H
  have c4b0 : decide (a1 ≤ a0) = false := decide_eq_false c4
  clear c4
  obtain rfl := Option.some.inj H
  go_enter Tryz.func108, Tryz.ntmps108
  go_wp2
  go_ret
  exact ⟨by first | rfl | (simp; done) | (simp [*]; done), by repeat (first | exact Drawn0.refl _ | apply Drawn0.step)⟩
end Go.Proofs.YtnncjnjfdhbddaaGreat.Z
namespace Go.Proofs.YtnncjnjfdhbddaaGreat.Z
open Go.RowKit Go.Proofs.YtnncjnjfdhbddaaGreatW.PrintWords Go.Proofs.YtnncjnjfdhbddaaGreatW.PrintLast Go.Proofs.YtnncjnjfdhbddaaGreatW.PrintMore
attribute [local go_sem] max2_int min2_int max_two min_two max_three min_three max_four min_four
set_option linter.unusedVariables false
set_option linter.unusedSimpArgs false
def impl_isHidden.f (a0 : Int) : Option (Bool) := (impl_within.f a0 1 4).bind fun t683 => (some t683)
set_option maxHeartbeats 8000000 in
set_option maxRecDepth 100000 in
theorem impl_isHidden.calls (a0 : Int) (r : Bool) (w : World) (h : impl_isHidden.f a0 = some r) :
  Calls Tryz.prog 93 #[.int .i64 a0] w fun e w' => e = .returned (.bool r) ∧ Drawn0 w w' := by
 have H : ((impl_within.f a0 1 4).bind fun t683 => (some t683)) = some r := h
 clear h
 replace H := Option.bind_eq_some_iff.mp H
 obtain ⟨t683, A20, H⟩ := H
 replace H : (some t683) = some r := H
 have A2 := Aside0.mk A20
 clear A20
 obtain rfl := Option.some.inj H
 go_enter Tryz.func93, Tryz.ntmps93
 go_wp2_with (first | ((with_reducible refine gate_callee (f := 108) rfl ?_); refine goesL_ (some 4) rfl rfl Tryz.func108 (by kernel_rfl) rfl #[.int .i64 a0, .int .i64 1, .int .i64 4] rfl (by (try simp only [List.map_toArray, List.map_cons, List.map_nil]); first | done | rfl | (simp only [List.length_drop, List.length_take]; rfl)) ?_; (with_reducible refine (impl_within.calls a0 1 4 t683 _ A2.out).mono ?_); rintro e w' ⟨rfl, ⟨nd, rfl⟩⟩; refine ⟨_, rfl, ?_⟩))
 go_ret
 exact ⟨by first | rfl | (simp; done) | (simp [*]; done), by repeat (first | exact Drawn0.refl _ | apply Drawn0.step)⟩
end Go.Proofs.YtnncjnjfdhbddaaGreat.Z
namespace Go.Proofs.YtnncjnjfdhbddaaGreat.Z
open Go.RowKit Go.Proofs.YtnncjnjfdhbddaaGreatW.PrintWords Go.Proofs.YtnncjnjfdhbddaaGreatW.PrintLast Go.Proofs.YtnncjnjfdhbddaaGreatW.PrintMore
attribute [local go_sem] max2_int min2_int max_two min_two max_three min_three max_four min_four
set_option linter.unusedVariables false
set_option linter.unusedSimpArgs false
def inI (x lo hi : Int) : Bool := decide (lo ≤ x ∧ x ≤ hi)
def clueB (n : Int) (c : S86) : Bool :=
 if c.f0 = 0 then inI c.f1 0 (2 ^ n.toNat - 1) && inI c.f2 0 1
 else if c.f0 = 1 then inI c.f1 1 15 && (c.f2 == 0)
 else if c.f0 = 2 then inI c.f1 0 (n - 1) && inI c.f2 0 1
 else if c.f0 = 3 then inI c.f1 0 (n - 1) && inI c.f2 0 8
 else if c.f0 = 4 ∨ c.f0 = 5 then inI c.f1 0 1 && (c.f2 == 0)
 else false
theorem within_f (x lo hi : Int) : impl_within.f x lo hi = some (inI x lo hi) := by
 unfold impl_within.f inI
 by_cases h1 : lo ≤ x <;> by_cases h2 : x ≤ hi <;> simp [h1, h2]
theorem isHidden_f (n : Int) : impl_isHidden.f n = some (inI n 1 4) := by
 unfold impl_isHidden.f
 rw [within_f]
 rfl
theorem isClue_in (x lo hi : Int) (q : Bool) (h : inI x lo hi = q) (w : World) : Calls Tryz.prog 108 #[.int .i64 x, .int .i64 lo, .int .i64 hi] w fun e w' => e = .returned (.bool q) ∧ w' = w := by
 subst h
 by_cases h1 : lo ≤ x
 ·have e : inI x lo hi = decide (x ≤ hi) := by simp [inI, h1]
  have hd : decide (lo ≤ x) = true := decide_eq_true h1
  rw [e]
  clear e h1
  go_enter Tryz.func108, Tryz.ntmps108
  go_wp2
  go_ret
  exact ⟨rfl, rfl⟩
 ·have e : inI x lo hi = false := by simp [inI, h1]
  have hd : decide (lo ≤ x) = false := decide_eq_false h1
  rw [e]
  clear e h1
  go_enter Tryz.func108, Tryz.ntmps108
  go_wp2
  go_ret
  exact ⟨rfl, rfl⟩
set_option maxRecDepth 100000 in
set_option maxHeartbeats 4000000 in
theorem isClue_0 (n a b : Int) (hn : 1 ≤ n) (hn4 : n ≤ 4) (w : World) : Calls Tryz.prog 95 #[.int .i64 n, .agg #[.int .i64 0, .int .i64 a, .int .i64 b]] w fun e w' => e = .returned (.bool (inI a 0 (2 ^ n.toNat - 1) && inI b 0 1)) ∧ Below w.heap.size w w' := by
 have hu86 := Tryz.underlying86
 have HID := Aside0.mk (fun w => impl_isHidden.calls n true w (by rw [isHidden_f]; congr 1; exact decide_eq_true ⟨hn, hn4⟩))
 have HF := Aside0.mk ((Below.refl w.heap.size w).alloc (Nat.le_refl _) (.cells #[.int .i64 0, .int .i64 a, .int .i64 b] 86))
 have h4 : n = 1 ∨ n = 2 ∨ n = 3 ∨ n = 4 := by omega
 rcases h4 with rfl | rfl | rfl | rfl
 ·obtain ⟨q1, h1⟩ : ∃ q, inI a 0 1 = q := ⟨_, rfl⟩
  obtain ⟨q2, h2⟩ : ∃ q, inI b 0 1 = q := ⟨_, rfl⟩
  rw [show ((2 : Int) ^ (1 : Int).toNat - 1) = 1 from rfl, h1, h2]
  have W1 := Aside0.mk (fun w => isClue_in a 0 1 q1 h1 w)
  have W2 := Aside0.mk (fun w => isClue_in b 0 1 q2 h2 w)
  have z1 : IntKind.i64.wrap 2 = 2 := by decide
  have z2 : IntKind.i64.wrap (2 - 1) = 1 := by decide
  have z3 : IntKind.i64.wrap 1 = 1 := by decide
  clear h1 h2
  cases q1 <;> (go_enter Tryz.func95, Tryz.ntmps95; go_wp2_with (go_at_call 93; with_reducible refine (HID.out _).mono ?_; rintro e w' ⟨rfl, hd⟩; obtain ⟨m, rfl⟩ := hd); go_quiet ((first | (go_at_call 108; (with_reducible refine (W1.out _).mono ?_); rintro e w' ⟨rfl, rfl⟩; exact ⟨rfl, _, rfl⟩) | (go_at_call 108; (with_reducible refine (W2.out _).mono ?_); rintro e w' ⟨rfl, rfl⟩; exact ⟨rfl, _, rfl⟩))); go_wp2; go_ret; exact ⟨rfl, by (repeat (first | apply pw_below_drewN | apply below_drew)); exact HF.out⟩)
 ·obtain ⟨q1, h1⟩ : ∃ q, inI a 0 3 = q := ⟨_, rfl⟩
  obtain ⟨q2, h2⟩ : ∃ q, inI b 0 1 = q := ⟨_, rfl⟩
  rw [show ((2 : Int) ^ (2 : Int).toNat - 1) = 3 from rfl, h1, h2]
  have W1 := Aside0.mk (fun w => isClue_in a 0 3 q1 h1 w)
  have W2 := Aside0.mk (fun w => isClue_in b 0 1 q2 h2 w)
  have z1 : IntKind.i64.wrap 4 = 4 := by decide
  have z2 : IntKind.i64.wrap (4 - 1) = 3 := by decide
  have z3 : IntKind.i64.wrap 3 = 3 := by decide
  clear h1 h2
  cases q1 <;> (go_enter Tryz.func95, Tryz.ntmps95; go_wp2_with (go_at_call 93; with_reducible refine (HID.out _).mono ?_; rintro e w' ⟨rfl, hd⟩; obtain ⟨m, rfl⟩ := hd); go_quiet ((first | (go_at_call 108; (with_reducible refine (W1.out _).mono ?_); rintro e w' ⟨rfl, rfl⟩; exact ⟨rfl, _, rfl⟩) | (go_at_call 108; (with_reducible refine (W2.out _).mono ?_); rintro e w' ⟨rfl, rfl⟩; exact ⟨rfl, _, rfl⟩))); go_wp2; go_ret; exact ⟨rfl, by (repeat (first | apply pw_below_drewN | apply below_drew)); exact HF.out⟩)
 ·obtain ⟨q1, h1⟩ : ∃ q, inI a 0 7 = q := ⟨_, rfl⟩
  obtain ⟨q2, h2⟩ : ∃ q, inI b 0 1 = q := ⟨_, rfl⟩
  rw [show ((2 : Int) ^ (3 : Int).toNat - 1) = 7 from rfl, h1, h2]
  have W1 := Aside0.mk (fun w => isClue_in a 0 7 q1 h1 w)
  have W2 := Aside0.mk (fun w => isClue_in b 0 1 q2 h2 w)
  have z1 : IntKind.i64.wrap 8 = 8 := by decide
  have z2 : IntKind.i64.wrap (8 - 1) = 7 := by decide
  have z3 : IntKind.i64.wrap 7 = 7 := by decide
  clear h1 h2
  cases q1 <;> (go_enter Tryz.func95, Tryz.ntmps95; go_wp2_with (go_at_call 93; with_reducible refine (HID.out _).mono ?_; rintro e w' ⟨rfl, hd⟩; obtain ⟨m, rfl⟩ := hd); go_quiet ((first | (go_at_call 108; (with_reducible refine (W1.out _).mono ?_); rintro e w' ⟨rfl, rfl⟩; exact ⟨rfl, _, rfl⟩) | (go_at_call 108; (with_reducible refine (W2.out _).mono ?_); rintro e w' ⟨rfl, rfl⟩; exact ⟨rfl, _, rfl⟩))); go_wp2; go_ret; exact ⟨rfl, by (repeat (first | apply pw_below_drewN | apply below_drew)); exact HF.out⟩)
 ·obtain ⟨q1, h1⟩ : ∃ q, inI a 0 15 = q := ⟨_, rfl⟩
  obtain ⟨q2, h2⟩ : ∃ q, inI b 0 1 = q := ⟨_, rfl⟩
  rw [show ((2 : Int) ^ (4 : Int).toNat - 1) = 15 from rfl, h1, h2]
  have W1 := Aside0.mk (fun w => isClue_in a 0 15 q1 h1 w)
  have W2 := Aside0.mk (fun w => isClue_in b 0 1 q2 h2 w)
  have z1 : IntKind.i64.wrap 16 = 16 := by decide
  have z2 : IntKind.i64.wrap (16 - 1) = 15 := by decide
  have z3 : IntKind.i64.wrap 15 = 15 := by decide
  clear h1 h2
  cases q1 <;> (go_enter Tryz.func95, Tryz.ntmps95; go_wp2_with (go_at_call 93; with_reducible refine (HID.out _).mono ?_; rintro e w' ⟨rfl, hd⟩; obtain ⟨m, rfl⟩ := hd); go_quiet ((first | (go_at_call 108; (with_reducible refine (W1.out _).mono ?_); rintro e w' ⟨rfl, rfl⟩; exact ⟨rfl, _, rfl⟩) | (go_at_call 108; (with_reducible refine (W2.out _).mono ?_); rintro e w' ⟨rfl, rfl⟩; exact ⟨rfl, _, rfl⟩))); go_wp2; go_ret; exact ⟨rfl, by (repeat (first | apply pw_below_drewN | apply below_drew)); exact HF.out⟩)
set_option maxRecDepth 100000 in
set_option maxHeartbeats 4000000 in
theorem isClue_1 (n a b : Int) (hn : 1 ≤ n) (hn4 : n ≤ 4) (w : World) : Calls Tryz.prog 95 #[.int .i64 n, .agg #[.int .i64 1, .int .i64 a, .int .i64 b]] w fun e w' => e = .returned (.bool (inI a 1 15 && (b == 0))) ∧ Below w.heap.size w w' := by
 have hu86 := Tryz.underlying86
 have HID := Aside0.mk (fun w => impl_isHidden.calls n true w (by rw [isHidden_f]; congr 1; exact decide_eq_true ⟨hn, hn4⟩))
 have HF := Aside0.mk ((Below.refl w.heap.size w).alloc (Nat.le_refl _) (.cells #[.int .i64 1, .int .i64 a, .int .i64 b] 86))
 obtain ⟨q1, h1⟩ : ∃ q, inI a 1 15 = q := ⟨_, rfl⟩
 rw [h1]
 have W1 := Aside0.mk (fun w => isClue_in a 1 15 q1 h1 w)
 clear h1
 cases q1 <;> (go_enter Tryz.func95, Tryz.ntmps95; go_wp2_with (first | (go_at_call 93; with_reducible refine (HID.out _).mono ?_; rintro e w' ⟨rfl, hd⟩; obtain ⟨m, rfl⟩ := hd) | (go_at_call 108; with_reducible refine (W1.out _).mono ?_; rintro e w' ⟨rfl, rfl⟩)); go_ret; exact ⟨rfl, by (repeat (first | apply pw_below_drewN | apply below_drew)); exact HF.out⟩)
set_option maxRecDepth 100000 in
set_option maxHeartbeats 4000000 in
theorem isClue_2 (n a b : Int) (hn : 1 ≤ n) (hn4 : n ≤ 4) (w : World) : Calls Tryz.prog 95 #[.int .i64 n, .agg #[.int .i64 2, .int .i64 a, .int .i64 b]] w fun e w' => e = .returned (.bool (inI a 0 (n - 1) && inI b 0 1)) ∧ Below w.heap.size w w' := by
 have hu86 := Tryz.underlying86
 have HID := Aside0.mk (fun w => impl_isHidden.calls n true w (by rw [isHidden_f]; congr 1; exact decide_eq_true ⟨hn, hn4⟩))
 have HF := Aside0.mk ((Below.refl w.heap.size w).alloc (Nat.le_refl _) (.cells #[.int .i64 2, .int .i64 a, .int .i64 b] 86))
 obtain ⟨q1, h1⟩ : ∃ q, inI a 0 (n - 1) = q := ⟨_, rfl⟩
 obtain ⟨q2, h2⟩ : ∃ q, inI b 0 1 = q := ⟨_, rfl⟩
 rw [h1, h2]
 have W1 := Aside0.mk (fun w => isClue_in a 0 (n - 1) q1 h1 w)
 have W2 := Aside0.mk (fun w => isClue_in b 0 1 q2 h2 w)
 clear h1 h2
 cases q1 <;> (go_enter Tryz.func95, Tryz.ntmps95; go_wp2_with (first | (go_at_call 93; with_reducible refine (HID.out _).mono ?_; rintro e w' ⟨rfl, hd⟩; obtain ⟨m, rfl⟩ := hd) | (go_at_call 108; with_reducible refine (W1.out _).mono ?_; rintro e w' ⟨rfl, rfl⟩) | (go_at_call 108; with_reducible refine (W2.out _).mono ?_; rintro e w' ⟨rfl, rfl⟩)); go_ret; exact ⟨rfl, by (repeat (first | apply pw_below_drewN | apply below_drew)); exact HF.out⟩)
set_option maxRecDepth 100000 in
set_option maxHeartbeats 4000000 in
theorem isClue_3 (n a b : Int) (hn : 1 ≤ n) (hn4 : n ≤ 4) (w : World) : Calls Tryz.prog 95 #[.int .i64 n, .agg #[.int .i64 3, .int .i64 a, .int .i64 b]] w fun e w' => e = .returned (.bool (inI a 0 (n - 1) && inI b 0 8)) ∧ Below w.heap.size w w' := by
 have hu86 := Tryz.underlying86
 have HID := Aside0.mk (fun w => impl_isHidden.calls n true w (by rw [isHidden_f]; congr 1; exact decide_eq_true ⟨hn, hn4⟩))
 have HF := Aside0.mk ((Below.refl w.heap.size w).alloc (Nat.le_refl _) (.cells #[.int .i64 3, .int .i64 a, .int .i64 b] 86))
 obtain ⟨q1, h1⟩ : ∃ q, inI a 0 (n - 1) = q := ⟨_, rfl⟩
 obtain ⟨q2, h2⟩ : ∃ q, inI b 0 8 = q := ⟨_, rfl⟩
 rw [h1, h2]
 have W1 := Aside0.mk (fun w => isClue_in a 0 (n - 1) q1 h1 w)
 have W2 := Aside0.mk (fun w => isClue_in b 0 8 q2 h2 w)
 clear h1 h2
 cases q1 <;> (go_enter Tryz.func95, Tryz.ntmps95; go_wp2_with (first | (go_at_call 93; with_reducible refine (HID.out _).mono ?_; rintro e w' ⟨rfl, hd⟩; obtain ⟨m, rfl⟩ := hd) | (go_at_call 108; with_reducible refine (W1.out _).mono ?_; rintro e w' ⟨rfl, rfl⟩) | (go_at_call 108; with_reducible refine (W2.out _).mono ?_; rintro e w' ⟨rfl, rfl⟩)); go_ret; exact ⟨rfl, by (repeat (first | apply pw_below_drewN | apply below_drew)); exact HF.out⟩)
set_option maxRecDepth 100000 in
set_option maxHeartbeats 4000000 in
theorem isClue_4 (n a b : Int) (hn : 1 ≤ n) (hn4 : n ≤ 4) (w : World) : Calls Tryz.prog 95 #[.int .i64 n, .agg #[.int .i64 4, .int .i64 a, .int .i64 b]] w fun e w' => e = .returned (.bool (inI a 0 1 && (b == 0))) ∧ Below w.heap.size w w' := by
 have hu86 := Tryz.underlying86
 have HID := Aside0.mk (fun w => impl_isHidden.calls n true w (by rw [isHidden_f]; congr 1; exact decide_eq_true ⟨hn, hn4⟩))
 have HF := Aside0.mk ((Below.refl w.heap.size w).alloc (Nat.le_refl _) (.cells #[.int .i64 4, .int .i64 a, .int .i64 b] 86))
 obtain ⟨q1, h1⟩ : ∃ q, inI a 0 1 = q := ⟨_, rfl⟩
 rw [h1]
 have W1 := Aside0.mk (fun w => isClue_in a 0 1 q1 h1 w)
 clear h1
 cases q1 <;> (go_enter Tryz.func95, Tryz.ntmps95; go_wp2_with (first | (go_at_call 93; with_reducible refine (HID.out _).mono ?_; rintro e w' ⟨rfl, hd⟩; obtain ⟨m, rfl⟩ := hd) | (go_at_call 108; with_reducible refine (W1.out _).mono ?_; rintro e w' ⟨rfl, rfl⟩)); go_ret; exact ⟨rfl, by (repeat (first | apply pw_below_drewN | apply below_drew)); exact HF.out⟩)
set_option maxRecDepth 100000 in
set_option maxHeartbeats 4000000 in
theorem isClue_5 (n a b : Int) (hn : 1 ≤ n) (hn4 : n ≤ 4) (w : World) : Calls Tryz.prog 95 #[.int .i64 n, .agg #[.int .i64 5, .int .i64 a, .int .i64 b]] w fun e w' => e = .returned (.bool (inI a 0 1 && (b == 0))) ∧ Below w.heap.size w w' := by
 have hu86 := Tryz.underlying86
 have HID := Aside0.mk (fun w => impl_isHidden.calls n true w (by rw [isHidden_f]; congr 1; exact decide_eq_true ⟨hn, hn4⟩))
 have HF := Aside0.mk ((Below.refl w.heap.size w).alloc (Nat.le_refl _) (.cells #[.int .i64 5, .int .i64 a, .int .i64 b] 86))
 obtain ⟨q1, h1⟩ : ∃ q, inI a 0 1 = q := ⟨_, rfl⟩
 rw [h1]
 have W1 := Aside0.mk (fun w => isClue_in a 0 1 q1 h1 w)
 clear h1
 cases q1 <;> (go_enter Tryz.func95, Tryz.ntmps95; go_wp2_with (first | (go_at_call 93; with_reducible refine (HID.out _).mono ?_; rintro e w' ⟨rfl, hd⟩; obtain ⟨m, rfl⟩ := hd) | (go_at_call 108; with_reducible refine (W1.out _).mono ?_; rintro e w' ⟨rfl, rfl⟩)); go_ret; exact ⟨rfl, by (repeat (first | apply pw_below_drewN | apply below_drew)); exact HF.out⟩)
set_option maxRecDepth 100000 in
set_option maxHeartbeats 4000000 in
theorem isClue_x (n k a b : Int) (hn : inI n 1 4 = true) (h0 : (k == 0) = false) (h1 : (k == 1) = false) (h2 : (k == 2) = false) (h3 : (k == 3) = false) (h4 : (k == 4) = false) (h5 : (k == 5) = false) (w : World) : Calls Tryz.prog 95 #[.int .i64 n, .agg #[.int .i64 k, .int .i64 a, .int .i64 b]] w fun e w' => e = .returned (.bool false) ∧ Below w.heap.size w w' := by
 have hu86 := Tryz.underlying86
 have HID := Aside0.mk (fun w => impl_isHidden.calls n true w (by rw [isHidden_f, hn]))
 clear hn
 have HF := Aside0.mk ((Below.refl w.heap.size w).alloc (Nat.le_refl _) (.cells #[.int .i64 k, .int .i64 a, .int .i64 b] 86))
 go_enter Tryz.func95, Tryz.ntmps95
 go_wp2_with (go_at_call 93; with_reducible refine (HID.out _).mono ?_; rintro e w' ⟨rfl, hd⟩; obtain ⟨m, rfl⟩ := hd)
 go_ret
 exact ⟨rfl, by (repeat (first | apply pw_below_drewN | apply below_drew)); exact HF.out⟩
set_option maxRecDepth 100000 in
set_option maxHeartbeats 4000000 in
theorem isClue_no (n k a b : Int) (hn : inI n 1 4 = false) (w : World) : Calls Tryz.prog 95 #[.int .i64 n, .agg #[.int .i64 k, .int .i64 a, .int .i64 b]] w fun e w' => e = .returned (.bool false) ∧ Below w.heap.size w w' := by
 have hu86 := Tryz.underlying86
 have HID := Aside0.mk (fun w => impl_isHidden.calls n false w (by rw [isHidden_f, hn]))
 clear hn
 have HF := Aside0.mk ((Below.refl w.heap.size w).alloc (Nat.le_refl _) (.cells #[.int .i64 k, .int .i64 a, .int .i64 b] 86))
 go_enter Tryz.func95, Tryz.ntmps95
 go_wp2_with (go_at_call 93; with_reducible refine (HID.out _).mono ?_; rintro e w' ⟨rfl, hd⟩; obtain ⟨m, rfl⟩ := hd)
 go_ret
 exact ⟨rfl, by (repeat (first | apply pw_below_drewN | apply below_drew)); exact HF.out⟩
theorem isClue_any (n : Int) (hn : inI n 1 4 = true) (c : S86) (w : World) : Calls Tryz.prog 95 #[.int .i64 n, .agg #[.int .i64 c.f0, .int .i64 c.f1, .int .i64 c.f2]] w fun e w' => e = .returned (.bool (clueB n c)) ∧ Below w.heap.size w w' := by
 have hi := of_decide_eq_true hn
 obtain ⟨k, a, b⟩ := c
 simp only [clueB]
 by_cases h0 : k = 0
 ·subst h0
  simp only [if_true, if_false]
  exact isClue_0 n a b hi.1 hi.2 w
 by_cases h1 : k = 1
 ·subst h1
  simp only [show ¬ (1 : Int) = 0 by decide, if_true, if_false]
  exact isClue_1 n a b hi.1 hi.2 w
 by_cases h2 : k = 2
 ·subst h2
  simp only [show ¬ (2 : Int) = 0 by decide, show ¬ (2 : Int) = 1 by decide, if_true, if_false]
  exact isClue_2 n a b hi.1 hi.2 w
 by_cases h3 : k = 3
 ·subst h3
  simp only [show ¬ (3 : Int) = 0 by decide, show ¬ (3 : Int) = 1 by decide, show ¬ (3 : Int) = 2 by decide, if_true, if_false]
  exact isClue_3 n a b hi.1 hi.2 w
 by_cases h4 : k = 4
 ·subst h4
  simp only [show ¬ (4 : Int) = 0 by decide, show ¬ (4 : Int) = 1 by decide, show ¬ (4 : Int) = 2 by decide, show ¬ (4 : Int) = 3 by decide, true_or, if_true, if_false]
  exact isClue_4 n a b hi.1 hi.2 w
 by_cases h5 : k = 5
 ·subst h5
  simp only [show ¬ (5 : Int) = 0 by decide, show ¬ (5 : Int) = 1 by decide, show ¬ (5 : Int) = 2 by decide, show ¬ (5 : Int) = 3 by decide, show ¬ (5 : Int) = 4 by decide, or_true, if_true, if_false]
  exact isClue_5 n a b hi.1 hi.2 w
 ·simp only [h0, h1, h2, h3, h4, h5, if_false, or_self]
  exact isClue_x n k a b hn (beq_eq_false_iff_ne.mpr h0) (beq_eq_false_iff_ne.mpr h1) (beq_eq_false_iff_ne.mpr h2) (beq_eq_false_iff_ne.mpr h3) (beq_eq_false_iff_ne.mpr h4) (beq_eq_false_iff_ne.mpr h5) w
def impl_IsClue.f (a0 : Int) (a1_0 : Int) (a1_1 : Int) (a1_2 : Int) : Option (Bool) := some (inI a0 1 4 && clueB a0 ⟨a1_0, a1_1, a1_2⟩)
theorem impl_IsClue.calls (a0 : Int) (a1_0 : Int) (a1_1 : Int) (a1_2 : Int) (r : Bool) (w : World) (h : impl_IsClue.f a0 a1_0 a1_1 a1_2 = some r) :
  Calls Tryz.prog 95 #[.int .i64 a0, .agg #[.int .i64 a1_0, .int .i64 a1_1, .int .i64 a1_2]] w fun e w' => e = .returned (.bool r) ∧ Below w.heap.size w w' := by
 obtain rfl := Option.some.inj h
 cases hn : inI a0 1 4 with
 | false => exact isClue_no a0 a1_0 a1_1 a1_2 hn w
 | true => exact isClue_any a0 hn ⟨a1_0, a1_1, a1_2⟩ w
end Go.Proofs.YtnncjnjfdhbddaaGreat.Z
namespace Go.Proofs.YtnncjnjfdhbddaaGreat.Z
open Go.RowKit Go.Proofs.YtnncjnjfdhbddaaGreatW.PrintWords Go.Proofs.YtnncjnjfdhbddaaGreatW.PrintLast Go.Proofs.YtnncjnjfdhbddaaGreatW.PrintMore
attribute [local go_sem] max2_int min2_int max_two min_two max_three min_three max_four min_four
set_option linter.unusedVariables false
set_option linter.unusedSimpArgs false
def puzzB (n : Int) (l : List S86) : Bool := inI n 1 4 && (decide (l.length ≤ 8) && l.all (clueB n))
theorem hidden_f (n : Int) : impl_isHidden.f n = some (inI n 1 4) := isHidden_f n
theorem isClue_f (n : Int) (h : inI n 1 4 = true) (c : S86) : impl_IsClue.f n c.f0 c.f1 c.f2 = some (clueB n c) := by
 rw [impl_IsClue.f, h]; rfl
theorem isPuzzle_fn (n : Int) (hn : inI n 1 4 = true) (x : S86) (b : Nat) (v : Value) (W : World) (hb : W.heap[b]? = some (.cells #[.int .i64 n, v] 41 (0, 0))) :
  Calls Tryz.prog 94 #[.agg #[.int .i64 x.f0, .int .i64 x.f1, .int .i64 x.f2], .pointer (some ⟨b, 0, none⟩)] W fun e w' => e = .returned (.bool (!(clueB n x))) ∧ Below W.heap.size W w' := by
 have hu41 := Tryz.underlying41
 have hu86 := Tryz.underlying86
 have hc := fun w => impl_IsClue.calls n x.f0 x.f1 x.f2 _ w (isClue_f n hn x)
 have HC := Aside0.mk hc
 clear hc
 generalize clueB n x = q at HC ⊢
 have hc0 : ∀ o, (W.alloc o).cell? ⟨b, 0, none⟩ = some (.int .i64 n) := fun o => (World.cell?_alloc_lt _ _ _ (by simpa using blk_lt hb)).trans ((blk_cell hb 0).trans rfl)
 clear hb
 go_enter Tryz.func94, Tryz.ntmps94
 go_wp2_with (go_at_call 95; refine (HC.out _).mono ?_; rintro e w1 ⟨rfl, hd⟩; have HD := Aside0.mk hd; clear hd)
 go_ret
 exact ⟨rfl, Below.trans ((Below.refl _ _).alloc (Nat.le_refl _) _) (HD.out.mono (by simp))⟩
def impl_IsPuzzle.f (a0_0 : Int) (l0_1 : List (S86)) : Option (Bool) := some (puzzB a0_0 l0_1)
set_option maxHeartbeats 2000000 in
theorem impl_IsPuzzle.calls (a0_0 : Int) (A0_1 : Option Addr) (c0_1 : Nat) (l0_1 : List (S86)) (r : Bool) (w : World) (hr0_1 : Kd.C k86 w A0_1 l0_1.length l0_1) (hc0_1 : l0_1.length ≤ c0_1) (h : impl_IsPuzzle.f a0_0 l0_1 = some r) :
  Calls Tryz.prog 66 #[.agg #[.int .i64 a0_0, .slice A0_1 l0_1.length c0_1]] w fun e w' => e = .returned (.bool r) ∧ Below w.heap.size w w' := by
 obtain rfl := Option.some.inj h
 have hu41 := Tryz.underlying41
 have hh := fun w => impl_isHidden.calls a0_0 _ w (hidden_f a0_0)
 have HH := Aside0.mk hh
 clear hh
 have eg : ∀ args w, (callFunc 94 args).run Tryz.prog w = .ok (.enter 94 args) w := enters_of Tryz.func94 (by kernel_rfl) rfl
 have hcf := fun (hn : inI a0_0 1 4 = true) (W : World) (hB : Below w.heap.size w W) (b : Nat) (hb : W.heap[b]? = some (.cells #[.int .i64 a0_0, .slice A0_1 l0_1.length c0_1] 41 (0, 0))) =>
  containsFunc_cl (fun x => !(clueB a0_0 x)) 94 #[.pointer (some ⟨b, 0, none⟩)] A0_1 c0_1 l0_1 W eg (Kd.C_below hr0_1 hB) (fun W' x hx hB' => isPuzzle_fn a0_0 hn x b _ W' (blk_below hb hB'))
 have HCF := Aside0.mk hcf
 have e1 : l0_1.any (fun x => !(clueB a0_0 x)) = !(l0_1.all (clueB a0_0)) := by rw [List.any_eq_not_all_not]; simp
 rw [puzzB]
 have hm := hr0_1.2.1
 have HR := Aside0.mk hr0_1
 rw [e1] at HCF
 clear hcf eg hr0_1 e1
 generalize l0_1.all (clueB a0_0) = q at HCF ⊢
 cases hn : inI a0_0 1 4 with
 | false =>
  rw [hn] at HH
  go_enter Tryz.func66, Tryz.ntmps66
  go_wp2_with (go_at_call 93; refine (HH.out _).mono ?_; rintro e w1 ⟨rfl, hd⟩; obtain ⟨m, rfl⟩ := hd)
  go_ret
  exact ⟨rfl, pw_below_drewN ((Below.refl _ _).alloc (Nat.le_refl _) _) _⟩
 | true =>
  rw [hn] at HH
  have hcf := HCF.out hn
  clear HCF
  have HCF := Aside0.mk hcf
  clear hcf hn
  by_cases hl : l0_1.length ≤ 8
  ·have hl0 : (l0_1.length : Int) ≤ 8 := by omega
   have hl1 : decide ((l0_1.length : Int) ≤ 8) = true := decide_eq_true (by omega)
   have hl2 : decide (l0_1.length ≤ 8) = true := decide_eq_true hl
   rw [hl2]
   go_enter Tryz.func66, Tryz.ntmps66
   go_wp2_with (first | (go_at_call 93; refine (HH.out _).mono ?_; rintro e w1 ⟨rfl, hd⟩; obtain ⟨m, rfl⟩ := hd) | (go_at_call 88; refine (HCF.out _ (pw_below_drewN ((Below.refl _ _).alloc (Nat.le_refl _) _) _) w.heap.size (blk_drewN (heap1_0 _ _) _)).mono ?_; rintro e w1 ⟨rfl, hd⟩; have HD := Aside0.mk hd; clear hd))
   go_ret
   refine ⟨by simp, Below.trans (pw_below_drewN ((Below.refl _ _).alloc (Nat.le_refl _) _) _) (HD.out.mono (by simp))⟩
  ·have hl0 : ¬ (l0_1.length : Int) ≤ 8 := by omega
   have hl1 : decide ((l0_1.length : Int) ≤ 8) = false := decide_eq_false (by omega)
   have hl2 : decide (l0_1.length ≤ 8) = false := decide_eq_false hl
   rw [hl2]
   go_enter Tryz.func66, Tryz.ntmps66
   go_wp2_with (go_at_call 93; refine (HH.out _).mono ?_; rintro e w1 ⟨rfl, hd⟩; obtain ⟨m, rfl⟩ := hd)
   go_ret
   exact ⟨by simp, pw_below_drewN ((Below.refl _ _).alloc (Nat.le_refl _) _) _⟩
end Go.Proofs.YtnncjnjfdhbddaaGreat.Z
namespace Go.Proofs.YtnncjnjfdhbddaaGreat.Z
open Go.RowKit Go.Proofs.YtnncjnjfdhbddaaGreatW.PrintWords Go.Proofs.YtnncjnjfdhbddaaGreatW.PrintLast Go.Proofs.YtnncjnjfdhbddaaGreatW.PrintMore
attribute [local go_sem] max2_int min2_int max_two min_two max_three min_three max_four min_four
set_option linter.unusedVariables false
set_option linter.unusedSimpArgs false
set_option maxHeartbeats 2000000 in
theorem indexFunc_int (p : Int → Bool) (g : Nat) (cb : Array Value) (A : Option Addr) (c : Nat) (l : List Int) (w : World)
  (eg : ∀ args w, (callFunc g args).run Tryz.prog w = .ok (.enter g args) w)
  (hr : Kd.C (Kd.int .i64) w A l.length l)
  (hp : ∀ W x, x ∈ l → Below w.heap.size w W → Calls Tryz.prog g (#[.int .i64 x] ++ cb) W fun e w' => e = .returned (.bool (p x)) ∧ Below W.heap.size W w') :
  Calls Tryz.prog 145 #[.slice A l.length c, .func (.func g) #[] cb] w fun e w' => e = .returned (.int .i64 (idxI p l)) ∧ Below w.heap.size w w' := by
 have HR := Aside0.mk hr
 have HP := Aside0.mk hp
 have hm := hr.2.1
 clear hr hp
 go_enter Tryz.func145, Tryz.ntmps145
 go_wp2
 go_loopg [5, 8] l.length (fun gg _ s8 wr => ∃ kk : Nat, kk ≤ l.length ∧ l.length - kk ≤ gg ∧ s8 = .int .i64 kk ∧ Aside0 (Below w.heap.size w wr) ∧ Aside0 (∀ j, j < kk → p (l.getD j 0) = false))
 case atStart => exact ⟨0, Nat.zero_le _, by omega, rfl, ⟨Below.refl _ w⟩, ⟨fun j hj => absurd hj (Nat.not_lt_zero _)⟩⟩
 case round =>
  obtain ⟨kk, hkk, hg, rfl, BW, HA⟩ := hrel
  by_cases hlt : kk < l.length
  ·have hltz : (kk : Int) < (l.length : Int) := by omega
   obtain ⟨ad, e, hcell⟩ := Kd.at_int (Kd.C_below HR.out BW.out) (kk : Int) (by omega) hltz
   subst e
   rw [Int.toNat_natCast] at hcell
   have hy0 : rd l (kk : Int) = l.getD kk 0 := by simp [rd]
   have hmem : l.getD kk 0 ∈ l := by simp [List.getD_eq_getElem?_getD, hlt]
   rw [hy0] at hcell
   have hcall := HP.out wr _ hmem BW.out
   clear hy0 hmem HR HP
   generalize hy : l.getD kk 0 = y at hcell hcall
   have B := Aside0.mk hy
   clear hy
   cases hq : p y with
   | true =>
    rw [hq] at hcall
    have Q := Aside0.mk hq
    clear hq
    go_wp2_with (go_at_fn g; refine hcall.mono ?_; rintro e w' ⟨rfl, hb'⟩)
    go_ret
    refine ⟨?_, Below.trans BW.out (hb'.mono BW.out.size)⟩
    rw [idxI_hit p l 0 kk hlt (by rw [B.out]; exact Q.out) HA.out]
    rfl
   | false =>
    rw [hq] at hcall
    have Q := Aside0.mk hq
    clear hq
    go_wp2_with (go_at_fn g; refine hcall.mono ?_; rintro e w' ⟨rfl, hb'⟩)
    go_roundg (l.length - (kk + 1))
    case measure => omega
    case rel =>
     refine ⟨kk + 1, by omega, by omega, by go_num, ⟨Below.trans BW.out (hb'.mono BW.out.size)⟩, ⟨fun j hj => ?_⟩⟩
     by_cases e : j = kk
     ·subst e
      rw [B.out]; exact Q.out
     ·exact HA.out j (by omega)
  ·have hltz : ¬ (kk : Int) < (l.length : Int) := by omega
   have : kk = l.length := by omega
   subst this
   go_wp2
   go_ret
   refine ⟨?_, BW.out⟩
   rw [idxI_miss p l 0 HA.out]
   rfl
set_option maxHeartbeats 2000000 in
theorem containsFunc_int (p : Int → Bool) (g : Nat) (cb : Array Value) (A : Option Addr) (c : Nat) (l : List Int) (w : World)
  (eg : ∀ args w, (callFunc g args).run Tryz.prog w = .ok (.enter g args) w)
  (hr : Kd.C (Kd.int .i64) w A l.length l)
  (hp : ∀ W x, x ∈ l → Below w.heap.size w W → Calls Tryz.prog g (#[.int .i64 x] ++ cb) W fun e w' => e = .returned (.bool (p x)) ∧ Below W.heap.size W w') :
  Calls Tryz.prog 114 #[.slice A l.length c, .func (.func g) #[] cb] w fun e w' => e = .returned (.bool (l.any p)) ∧ Below w.heap.size w w' := by
 rw [← idxI_nonneg]
 have hI := indexFunc_int p g cb A c l w eg hr hp
 generalize idxI p l = i at hI
 go_enter Tryz.func114, Tryz.ntmps114
 go_wp2_with (go_at_call 145; refine hI.mono ?_; rintro e w' ⟨rfl, hb'⟩)
 go_ret
 exact ⟨rfl, hb'⟩
end Go.Proofs.YtnncjnjfdhbddaaGreat.Z
namespace Go.Proofs.YtnncjnjfdhbddaaGreat.Z
open Go.RowKit Go.Proofs.YtnncjnjfdhbddaaGreatW.PrintWords Go.Proofs.YtnncjnjfdhbddaaGreatW.PrintLast Go.Proofs.YtnncjnjfdhbddaaGreatW.PrintMore
attribute [local go_sem] max2_int min2_int max_two min_two max_three min_three max_four min_four
set_option linter.unusedVariables false
set_option linter.unusedSimpArgs false
def impl_maskOf.l0 : Nat → Int → List Int → Int → Int → Option (Int)
 | 0, _, _, _, _ => none
 | k + 1, x3, x6, x7, x8 => if x8 < x7 then (if 0 ≤ x8 then (if x8 < (x6.length : Int) then (if 0 ≤ (rd x6 x8) then (impl_maskOf.l0 k (Go.bits .or .i64 x3 (shl .i64 1 (rd x6 x8))) x6 x7 (wrap64 (x8 + 1))) else (none)) else (none)) else (none)) else (some x3)
def impl_maskOf.f (k : Nat) (l0 : List Int) : Option (Int) := impl_maskOf.l0 k 0 l0 (l0.length : Int) 0
set_option maxHeartbeats 8000000 in
set_option maxRecDepth 100000 in
theorem impl_maskOf.calls (k : Nat) (A0 : Option Addr) (c0 : Nat) (l0 : List Int) (r : Int) (w : World) (hr0 : Kd.C (Kd.int .i64) w A0 l0.length l0) (hc0 : l0.length ≤ c0) (h : impl_maskOf.f k l0 = some r) :
  Calls Tryz.prog 111 #[.slice A0 l0.length c0] w fun e w' => e = .returned (.int .i64 r) ∧ Drawn0 w w' := by
 have HR0 := Aside0.mk hr0
 have HC0 := Aside0.mk hc0
 clear hr0 hc0
 have H : (impl_maskOf.l0 k 0 l0 (l0.length : Int) 0) = some r := h
 clear h
 have H' := Aside0.mk H
 clear H
 go_enter Tryz.func111, Tryz.ntmps111
 go_wp2
 go_loopg [3, 8] k (fun kq v3 v8 w' => ∃ (x3_1 : Int) (x8_1 : Int), v3 = .int .i64 x3_1 ∧ v8 = .int .i64 x8_1 ∧ Aside0 (impl_maskOf.l0 kq x3_1 l0 (l0.length : Int) x8_1 = some r) ∧ Aside0 (kq ≤ k) ∧ Drawn0 w w')
 case atStart => exact ⟨(0), (0), (by first | rfl | (simp; done) | (simp [*]; done)), (by first | rfl | (simp; done) | (simp [*]; done)), H', ⟨Nat.le_refl _⟩, by repeat (first | exact Drawn0.refl _ | apply Drawn0.step)⟩
 case round =>
  clear H'
  try clear c1
  obtain ⟨x3_1, x8_1, rfl, rfl, HA, HK1, ⟨m1, rfl⟩⟩ := hrel
  cases gk with
  | zero => exact absurd HA.out (by simp [impl_maskOf.l0])
  | succ k1 =>
   have H := HA.out
   clear HA
   simp only [impl_maskOf.l0] at H
   by_cases c2 : x8_1 < (l0.length : Int)
   ·rw [if_pos c2] at H
    have c2b0 : decide (x8_1 < (l0.length : Int)) = true := decide_eq_true c2
    clear c2
    by_cases c3 : 0 ≤ x8_1
    ·rw [if_pos c3] at H
     have c3b0 : decide (0 ≤ x8_1) = true := decide_eq_true c3
     clear c3
     by_cases c4 : x8_1 < (l0.length : Int)
     ·rw [if_pos c4] at H
      have c4b0 : decide (x8_1 < (l0.length : Int)) = true := decide_eq_true c4
      clear c4
      by_cases c5 : 0 ≤ (rd l0 x8_1)
      ·rw [if_pos c5] at H
       have c5b0 := eq_true c5
       have c5b1 : decide (0 ≤ (rd l0 x8_1)) = true := decide_eq_true c5
       clear c5
       obtain ⟨ji6, hji6⟩ : ∃ j_ : Int, (shl .i64 1 (rd l0 x8_1)) = j_ := ⟨_, rfl⟩
       replace H : (impl_maskOf.l0 k1 (Go.bits .or .i64 x3_1 (ji6)) l0 (l0.length : Int) (wrap64 (x8_1 + 1))) = some r := by first | (rw [hji6] at H; exact H) | (simp only [hji6] at H ⊢; exact H)
       have hji6_ : (IntKind.i64.wrap (1 * 2 ^ min (rd l0 x8_1).toNat 64)) = ji6 := hji6
       have hji6z : (rd l0 x8_1) ≤ 64 → (IntKind.i64.wrap (1 * 2 ^ (rd l0 x8_1).toNat)) = ji6 := shl_small hji6
       have hji6u : (IntKind.i64.wrap (2 ^ min (rd l0 x8_1).toNat 64)) = ji6 := by have h_ := hji6_; rw [Int.one_mul] at h_; exact h_
       have hji6v : (rd l0 x8_1) ≤ 64 → (IntKind.i64.wrap (2 ^ (rd l0 x8_1).toNat)) = ji6 := fun hle_ => by have h_ := hji6z hle_; rw [Int.one_mul] at h_; exact h_
       have hji6y : (wrap64 (1 * 2 ^ min (rd l0 x8_1).toNat 64)) = ji6 := (i64_w _).symm.trans hji6_
       have hji6x : (rd l0 x8_1) ≤ 64 → (wrap64 (1 * 2 ^ (rd l0 x8_1).toNat)) = ji6 := fun h_ => (i64_w _).symm.trans (hji6z h_)
       have H' := Aside0.mk H
       clear H
       have p567 : 0 ≤ (x8_1 : Int) := of_decide_eq_true (by first | (with_reducible assumption) | assumption)
       have q567 : x8_1 < (l0.length : Int) := of_decide_eq_true (by first | (with_reducible assumption) | assumption)
       obtain ⟨ad567, e567, hx567_0⟩ := Kd.at_int HR0.out x8_1 p567 q567
       cases e567
       replace p567 := eq_true p567
       replace q567 := eq_true q567
       go_wp2
       go_roundg k1
       case measure => have := HK1.out; omega
       case rel => exact ⟨(Go.bits .or .i64 x3_1 (ji6)), (wrap64 (x8_1 + 1)), (by first | rfl | (simp; done) | (simp only [← hji6] <;> (first | rfl | simp)) | (simp [*]; done)), (by first | rfl | (simp; done) | (simp [*]; done)), H', ⟨by have := HK1.out; omega⟩, by repeat (first | exact Drawn0.refl _ | apply Drawn0.step)⟩
      ·rw [if_neg c5] at H
       exact absurd H (by simp)
     ·rw [if_neg c4] at H
      exact absurd H (by simp)
    ·rw [if_neg c3] at H
     exact absurd H (by simp)
   ·rw [if_neg c2] at H
    have c2b0 : decide (x8_1 < (l0.length : Int)) = false := decide_eq_false c2
    clear c2
    obtain rfl := Option.some.inj H
    go_wp2
    go_ret
    exact ⟨by first | rfl | (simp; done) | (simp [*]; done), by repeat (first | exact Drawn0.refl _ | apply Drawn0.step)⟩
end Go.Proofs.YtnncjnjfdhbddaaGreat.Z
namespace Go.Proofs.YtnncjnjfdhbddaaGreat.Z
open Go.RowKit Go.Proofs.YtnncjnjfdhbddaaGreatW.PrintWords Go.Proofs.YtnncjnjfdhbddaaGreatW.PrintLast Go.Proofs.YtnncjnjfdhbddaaGreatW.PrintMore
attribute [local go_sem] max2_int min2_int max_two min_two max_three min_three max_four min_four
set_option linter.unusedVariables false
set_option linter.unusedSimpArgs false
def hasAll (mask m : Nat) : Bool := mask &&& m == m
def VBox (b : Nat) (v : Value) (W : World) : Prop := W.heap[b]? = some (.cells #[v] 36 (0, 0))
def masksI (l : List Nat) : List Int := l.map fun (m : Nat) => (m : Int)
theorem votesBy_fn2 (mask m b : Nat) (hm : mask < 2 ^ 63) (h2 : m < 2 ^ 63) (W : World) (h1 : W.cell? ⟨b, 0, none⟩ = some (.int .i64 (mask : Int))) :
  Calls Tryz.prog 115 #[.int .i64 (m : Int), .pointer (some ⟨b, 0, none⟩)] W fun e w' => e = .returned (.bool (hasAll mask m)) ∧ W = w' := by
 have ha := and_nat mask m hm h2
 have hq : (((mask &&& m : Nat) : Int) == (m : Int)) = hasAll mask m := by
  unfold hasAll
  rw [Bool.eq_iff_iff]
  simp
  exact Int.ofNat_inj
 generalize hasAll mask m = q at hq
 go_enter Tryz.func115, Tryz.ntmps115
 go_wp2
 refine bodyPost_ret (v := .bool q) (by simp [results, Tryz.results115, go_sem]) rfl ?_
 exact ⟨rfl, rfl⟩
set_option maxHeartbeats 1000000 in
theorem votesBy_fn1 (mask b : Nat) (hm : mask < 2 ^ 63) (ms : List Nat) (h2 : ∀ m ∈ ms, m < 2 ^ 63) (A : Option Addr) (c : Nat) (W : World) (h1 : W.cell? ⟨b, 0, none⟩ = some (.slice A (masksI ms).length c)) (hr : Kd.C (Kd.int .i64) W A (masksI ms).length (masksI ms)) :
  Calls Tryz.prog 113 #[.int .i64 (mask : Int), .pointer (some ⟨b, 0, none⟩)] W fun e w' => e = .returned (.bool (ms.any (hasAll mask))) ∧ Below W.heap.size W w' := by
 have eg : ∀ args w, (callFunc 115 args).run Tryz.prog w = .ok (.enter 115 args) w := enters_of Tryz.func115 (by kernel_rfl) rfl
 have hC := fun (W' : World) (hB : Below W.heap.size W W') (h1 : W'.cell? ⟨W.heap.size, 0, none⟩ = some (.int .i64 (mask : Int))) =>
  containsFunc_int (fun x => hasAll mask x.toNat) 115 #[.pointer (some ⟨W.heap.size, 0, none⟩)] A c (masksI ms) W' eg (Kd.C_below hr hB)
   (fun W2 x hx hb => by
    obtain ⟨m, hm', rfl⟩ := List.mem_map.1 hx
    exact (votesBy_fn2 mask m _ hm (h2 m hm') W2 ((hb.cell (World.block_lt_of_cell? W' _ h1)).trans h1)).mono fun _ _ ⟨he, hw⟩ => ⟨by rw [he]; simp, hw ▸ Below.refl _ _⟩)
 have e1 : (masksI ms).any (fun x => hasAll mask x.toNat) = ms.any (hasAll mask) := by
  unfold masksI
  rw [List.any_map]
  rfl
 rw [e1] at hC
 generalize ms.any (hasAll mask) = q at hC
 have HC := Aside0.mk hC
 have hca : ∀ o, (W.alloc o).cell? ⟨b, 0, none⟩ = some (.slice A (masksI ms).length c) := fun o => (World.cell?_alloc_lt _ _ _ (World.block_lt_of_cell? W _ h1)).trans h1
 clear hC hr e1
 go_enter Tryz.func113, Tryz.ntmps113
 go_wp2_with (go_at_call 114; refine (HC.out _ ((Below.refl _ _).alloc (Nat.le_refl _) _) (by simp)).mono ?_; rintro e w' ⟨rfl, hb'⟩)
 go_ret
 exact ⟨rfl, Below.trans ((Below.refl _ _).alloc (Nat.le_refl _) _) (hb'.mono (by simp))⟩
set_option maxRecDepth 100000 in
set_option maxHeartbeats 4000000 in
theorem votesBy_any (n : Nat) (hn : n ≤ 9) (A : Option Addr) (c : Nat) (sets : List (List Int)) (ms : List Nat) (w : World)
  (hr : Kd.C (Kd.slice 3 (Kd.int .i64)) w A sets.length sets) (hl : sets.length ≤ 600) (hml : ms.length = sets.length)
  (hb63 : ∀ m ∈ ms, m < 2 ^ 63)
  (hm : ∀ i, i < sets.length → ∃ k, impl_maskOf.f k (sets.getD i []) = some ((ms.getD i 0 : Nat) : Int)) :
  Calls Tryz.prog 76 #[.int .i64 (n : Int), .slice A sets.length c] w fun e w' => ∃ v : Value, e = .returned (.agg #[.int .i64 (n : Int), v]) ∧ Kd.R Kd.bool 4 w' w.heap.size (fun _ => True) v ((List.range (2 ^ n)).map fun mask => ms.any (hasAll mask)) ∧ Below w.heap.size w w' := by
 have hu68 := Tryz.underlying68
 have HR := Aside0.mk hr
 have HM := Aside0.mk hm
 have HL := Aside0.mk hl
 have H63 := Aside0.mk hb63
 have HML := Aside0.mk hml
 clear hr hm hb63
 go_enter Tryz.func76, Tryz.ntmps76
 go_wp2
 go_loopg [7, 11] sets.length (fun gg _ s11 wr => ∃ kk : Nat, kk ≤ sets.length ∧ sets.length - kk ≤ gg ∧ s11 = .int .i64 kk ∧ ∃ v : Value, Aside0 (Below w.heap.size w wr) ∧ Aside0 (VBox (w.heap.size + 1 + 1) v wr) ∧ Aside0 (Kd.R (Kd.int .i64) 3 wr w.heap.size (fun k => k ≠ w.heap.size ∧ k ≠ w.heap.size + 1 + 1) v (masksI (ms.take kk))) ∧ Aside0 (VRes w.heap.size wr))
 case atStart =>
  refine ⟨0, Nat.zero_le _, by omega, rfl, _, ⟨((Below.refl _ _).alloc (Nat.le_refl _) _ |>.alloc (by simp) _ |>.alloc (by simp; omega) _)⟩, ⟨heap3_2 _ _ _ _⟩, ⟨?_⟩, ⟨heap3_0 _ _ _ _⟩⟩
  refine Kd.R_of_own (xs := []) ⟨rfl, .inr ⟨w.heap.size + 1, 0, #[], rfl, by omega, heap3_1 _ _ _ _, Nat.le_refl _, by simp [maxLen], rfl, rfl⟩⟩ ?_
  intro k hk
  have : w.heap.size + 1 = k := by simpa [Value.ownBlock] using hk
  omega
 case round =>
  obtain ⟨kk, hkk, hg, rfl, v, BW, HV, HO, HZ⟩ := hrel
  by_cases hlt : kk < sets.length
  ·have hltz : (kk : Int) < (sets.length : Int) := by omega
   have h0z : (0 : Int) ≤ (kk : Int) := by omega
   have hc1 : wr.cell? ⟨w.heap.size + 1 + 1, 0, none⟩ = some v := (blk_cell HV.out 0).trans rfl
   have hf1 := blk_frozen HV.out 0
   obtain ⟨ad, A0, c0, e, hcell, hl0, hC0⟩ := at_L1 (Kd.C_below HR.out BW.out) (kk : Int) h0z hltz
   obtain ⟨k0, hk0⟩ := HM.out kk hlt
   have hrd : rd_L1 sets (kk : Int) = sets.getD kk [] := by simp [rd_L1]
   rw [hrd] at hcell hl0 hC0
   rw [Int.toNat_natCast] at hcell
   have hmk : ms.take (kk + 1) = ms.take kk ++ [ms.getD kk 0] := by rw [List.take_succ_eq_append_getElem (by omega)]; simp [List.getD_eq_getElem?_getD, hml, hlt]
   generalize hmm : ms.getD kk 0 = m at hk0 hmk
   have HMK := Aside0.mk hmk
   clear hmk hmm
   generalize hs : sets.getD kk [] = st at hcell hl0 hC0 hk0
   subst e
   have HC0 := Aside0.mk hC0
   have HK0 := Aside0.mk hk0
   have HL0 := Aside0.mk hl0
   clear hs hrd hC0 hk0 hl0
   go_wp2
   have hvb : wr.heap[w.heap.size + 1 + 1]? = some (.cells #[v] 36 (0, 0)) := HV.out
   have HVB := Aside0.mk hvb
   have hne : some (w.heap.size + 1 + 1) ≠ v.ownBlock := Kd.R_away HO.out (fun k hk => hk.2)
   have HNE := Aside0.mk hne
   have hlt2 : w.heap.size + 1 + 1 < wr.heap.size := blk_lt hvb
   have hca : ∀ d o, ((wr.drewN d).alloc o).cell? ⟨w.heap.size + 1 + 1, 0, none⟩ = some v := fun d o => (blk_cell (blk_alloc (blk_drewN hvb d) o) 0).trans rfl
   clear hvb hne
   go_region_law (first | (refine Kd.R_append_step (Kd.int .i64) (w0 := w) w.heap.size (by rfl) (.tmp 15) (.tmp 18) 36 3 (.int .i64 0) 8 rfl Tryz.underlying36 infoI rfl (by decide) (by omega) v (masksI (ms.take kk)) (m : Int) [.int .i64 (m : Int)] (fun k => k ≠ w.heap.size ∧ k ≠ w.heap.size + 1 + 1) (fun _ => False) rfl rfl rfl (fun _ hk => hk.elim) (fun k hk => ?aF) ?aO ?aB ?aS ?aL ?_; (case aF => (have h1 := BW.out.size; have h2 := blk_lt HVB.out; simp at hk; omega)); (case aO => exact (by (with_reducible repeat (first | exact HO.out | apply Kd.R_alloc | apply Kd.R_drewN | apply Kd.R_drew)))); (case aB => exact (by (with_reducible repeat (first | exact BW.out | apply below_alloc | apply pw_below_drewN | apply below_drew)))); (case aS => exact BW.out.size); (case aL => (simp [masksI]; omega)); intro v1 w1 ho hb hg hat; obtain ⟨Ao, co, rfl⟩ := Kd.R_slice ho; have hb1 : w1.heap[w.heap.size + 1 + 1]? = some (.cells #[v] 36 (0, 0)) := blk_grown (by (with_reducible repeat (first | exact HVB.out | refine blk_drewN ?_ _ | refine blk_drew ?_ | refine blk_alloc ?_ _))) hg HNE.out; have hb2 : w1.cell? ⟨w.heap.size + 1 + 1, 0, none⟩ = some v := (blk_cell hb1 0).trans rfl; have hb3 := blk_frozen hb1 0; have HO1 := Aside0.mk ho; have HB1 := Aside0.mk hb; have HG1 := Aside0.mk hg; have HV1 := Aside0.mk hb1; clear ho hb hg hat hb1) | (go_simp; go_at_call 111; refine (impl_maskOf.calls _ _ _ st _ _ (by (with_reducible repeat (first | exact HC0.out | apply Kd.C_alloc | apply Kd.C_drewN | apply Kd.C_drew))) HL0.out HK0.out).mono ?_; rintro e w' ⟨rfl, ⟨nd, rfl⟩⟩))
   all_goals
    go_wp2
    go_roundg (sets.length - (kk + 1))
    case measure => omega
    case rel =>
     have e1 : masksI (ms.take kk) ++ [(m : Int)] = masksI (ms.take (kk + 1)) := by rw [HMK.out]; simp [masksI]
     have e2 : (masksI (ms.take kk)).length + 1 = (masksI (ms.take kk) ++ [(m : Int)]).length := by simp
     rw [e2]
     have hlt1 : w.heap.size < wr.heap.size := by omega
     refine ⟨kk + 1, by omega, by omega, by go_num, _, ⟨HB1.out.setCell (by simp; omega) _⟩, ⟨blk_set HV1.out 0 _⟩, ⟨?_⟩, ⟨?_⟩⟩
     ·rw [← e1]
      exact Kd.R_far (p := ⟨w.heap.size + 1 + 1, 0, none⟩) HO1.out (fun k hk => hk.2) _
     ·exact blk_far (blk_grown (blk_drewN HZ.out _) HG1.out (Kd.R_away HO.out (fun k hk => hk.1))) (by simp; omega) _
  ·have hltz : ¬ (kk : Int) < (sets.length : Int) := by omega
   have : kk = sets.length := by omega
   subst this
   have eg : ∀ args w, (callFunc 113 args).run Tryz.prog w = .ok (.enter 113 args) w := enters_of Tryz.func113 (by kernel_rfl) rfl
   have etk : ms.take sets.length = ms := List.take_of_length_le (by omega)
   obtain ⟨Av, cv, ev, hlv, hCv⟩ := Kd.R_reads HO.out
   rw [etk] at ev hlv hCv
   have hcv : wr.cell? ⟨w.heap.size + 1 + 1, 0, none⟩ = some (.slice Av (masksI ms).length cv) := (blk_cell HV.out 0).trans (by rw [ev]; rfl)
   have hvo := votesOf_any n hn (fun mask => ms.any (hasAll mask)) 113 #[.pointer (some ⟨w.heap.size + 1 + 1, 0, none⟩)] wr eg
    (fun W m hm hb => votesBy_fn1 m _ (Nat.lt_of_lt_of_le hm (Nat.le_trans (pow_le9 hn) (by decide))) ms H63.out Av cv W ((hb.cell (World.block_lt_of_cell? wr _ hcv)).trans hcv) (Kd.C_below hCv hb))
   have HVO := Aside0.mk hvo
   have hz : wr.heap[w.heap.size]? = some (.cells #[.int .i64 0, .slice none 0 0] 68 (0, 0)) := HZ.out
   have HZ' := Aside0.mk hz
   clear hvo hcv hCv hlv ev etk eg hz
   go_wp2_with (go_at_call 112; refine HVO.out.mono ?_; rintro e w1 ⟨v1, rfl, hR1, hb1⟩; obtain ⟨A1, c1, rfl⟩ := Kd.R_slice hR1; have hz1 := blk_below HZ'.out hb1; have hz2 : w1.cell? ⟨w.heap.size, 0, none⟩ = some (.int .i64 0) := (blk_cell hz1 0).trans rfl; have hz3 : w1.cell? ⟨w.heap.size, 1, none⟩ = some (.slice none 0 0) := (blk_cell hz1 1).trans rfl; have hf2 := blk_frozen hz1 0; have hf3 := blk_frozen hz1 1; have HR1 := Aside0.mk hR1; have HB1 := Aside0.mk hb1; have HZ1 := Aside0.mk hz1; clear hR1 hb1 hz1)
   refine bodyPost_ret (results_cell_row rfl _ _ w.heap.size 68 #[.int .i64 (n : Int), .slice A1 _ c1] (0, 0) _ rfl (blk_set (blk_set HZ1.out 0 _) 1 _) Tryz.underlying68 rfl (by kernel_rfl)) rfl ?_
   have hlt0 : w.heap.size < wr.heap.size := blk_lt HZ'.out
   refine ⟨_, by simp, Kd.R_lower (Kd.R_far (p := ⟨w.heap.size, 1, none⟩) (Kd.R_far (p := ⟨w.heap.size, 0, none⟩) (Kd.R_newB HR1.out HZ'.out) (fun k hk => hk.2) _) (fun k hk => hk.2) _ |> fun h => Kd.R_mono h (fun _ _ => trivial)) (Nat.le_of_lt hlt0), ?_⟩
   exact ((Below.trans BW.out (HB1.out.mono BW.out.size)).setCell (Nat.le_refl _) _).setCell (Nat.le_refl _) _
end Go.Proofs.YtnncjnjfdhbddaaGreat.Z
namespace Go.Proofs.YtnncjnjfdhbddaaGreat.Z
open Go.RowKit Go.Proofs.YtnncjnjfdhbddaaGreatW.PrintWords Go.Proofs.YtnncjnjfdhbddaaGreatW.PrintLast Go.Proofs.YtnncjnjfdhbddaaGreatW.PrintMore
attribute [local go_sem] max2_int min2_int max_two min_two max_three min_three max_four min_four
set_option linter.unusedVariables false
set_option linter.unusedSimpArgs false
def maskN (s : List Int) : Nat := s.foldl (fun m x => m ||| 2 ^ x.toNat) 0
def inSmall (s : List Int) : Bool := s.all (fun x => decide (0 ≤ x ∧ x < 9))
theorem or_lt512 (a b : Nat) (ha : a < 512) (hb : b < 512) : a ||| b < 512 := Nat.or_lt_two_pow (n := 9) ha hb
theorem pow_lt512 {x : Int} (h : 0 ≤ x ∧ x < 9) : 2 ^ x.toNat < 512 := by
 have : 2 ^ x.toNat ≤ 2 ^ 8 := Nat.pow_le_pow_right (by decide) (by omega)
 omega
theorem maskFold_lt : ∀ (s : List Int) (m : Nat), inSmall s = true → m < 512 → s.foldl (fun m x => m ||| 2 ^ x.toNat) m < 512
 | [], m, _, hm => hm
 | x :: s, m, h, hm => by
  simp only [inSmall, List.all_cons, Bool.and_eq_true, decide_eq_true_eq] at h
  exact maskFold_lt s _ h.2 (or_lt512 _ _ hm (pow_lt512 h.1))
theorem maskN_lt (s : List Int) (h : inSmall s = true) : maskN s < 512 := maskFold_lt s 0 h (by decide)
theorem maskOf_l0 (s : List Int) (hs : s.length ≤ 9223372036854775807) (h : inSmall s = true) : ∀ (d k i m : Nat), s.length - i = d → i ≤ s.length → d < k → m < 512 →
  impl_maskOf.l0 k (m : Int) s (s.length : Int) (i : Int) = some (((s.drop i).foldl (fun m x => m ||| 2 ^ x.toNat) m : Nat) : Int) := by
 intro d
 induction d with
 | zero =>
  intro k i m hd hi hk hm
  obtain ⟨k, rfl⟩ : ∃ m, k = m + 1 := ⟨k - 1, by omega⟩
  simp only [impl_maskOf.l0]
  rw [if_neg (by omega), List.drop_of_length_le (by omega)]
  rfl
 | succ d ih =>
  intro k i m hd hi hk hm
  obtain ⟨k, rfl⟩ : ∃ m, k = m + 1 := ⟨k - 1, by omega⟩
  have hlt : i < s.length := by omega
  have hx : 0 ≤ s[i] ∧ s[i] < 9 := by
   have := List.all_eq_true.1 h s[i] (List.getElem_mem hlt)
   simpa using this
  have e1 : rd s (i : Int) = s[i] := by simp [rd, hlt]
  simp only [impl_maskOf.l0]
  rw [if_pos (by omega), if_pos (by omega), if_pos (by omega), e1, if_pos hx.1, List.drop_eq_getElem_cons hlt]
  have e2 : shl .i64 1 s[i] = ((2 ^ s[i].toNat : Nat) : Int) := by
   have := shl_nat (n := s[i].toNat) (by omega)
   rwa [Int.toNat_of_nonneg hx.1] at this
  have hp := pow_lt512 hx
  rw [e2, or_nat m _ (by omega) (by omega), show wrap64 ((i : Int) + 1) = ((i + 1 : Nat) : Int) by unfold wrap64; omega]
  exact ih k (i + 1) _ (by omega) (by omega) (by omega) (or_lt512 _ _ hm hp)
theorem maskOf_f (s : List Int) (hs : s.length ≤ 9223372036854775807) (h : inSmall s = true) : impl_maskOf.f (s.length + 1) s = some ((maskN s : Nat) : Int) :=
 maskOf_l0 s hs h s.length (s.length + 1) 0 0 (by omega) (by omega) (by omega) (by decide)
def tableOf (n : Nat) (sets : List (List Int)) : List Bool := (List.range (2 ^ n)).map fun m => (sets.map maskN).any (hasAll m)
def byOk (a0 : Int) (l1 : List (List Int)) : Bool := decide (0 ≤ a0 ∧ a0 ≤ 9 ∧ l1.length ≤ 600) && l1.all inSmall
def impl_votesBy.f (a0 : Int) (l1 : List (List Int)) : Option (Int × List Bool) := if byOk a0 l1 = true then some (a0, tableOf a0.toNat l1) else none
theorem impl_votesBy.calls (a0 : Int) (A1 : Option Addr) (c1 : Nat) (l1 : List (List Int)) (r1 : Int) (r2 : List Bool) (w : World) (hr1 : Kd.C (Kd.slice 3 (Kd.int .i64)) w A1 l1.length l1) (hc1 : l1.length ≤ c1) (h : impl_votesBy.f a0 l1 = some (r1, r2)) :
  Calls Tryz.prog 76 #[.int .i64 a0, .slice A1 l1.length c1] w fun e w' => ∃ v1_ : Value, e = .returned (.agg #[.int .i64 r1, v1_]) ∧ Kd.R Kd.bool 4 w' w.heap.size (fun _ => True) v1_ r2 ∧ Below w.heap.size w w' := by
 unfold impl_votesBy.f byOk at h
 split at h
 ·rename_i h1
  simp only [Bool.and_eq_true, decide_eq_true_eq] at h1
  obtain ⟨⟨h2, h3, h4⟩, h5⟩ := h1
  simp only [Option.some.injEq, Prod.mk.injEq] at h
  obtain ⟨rfl, rfl⟩ := h
  obtain ⟨n, rfl⟩ := Int.eq_ofNat_of_zero_le h2
  rw [Int.toNat_natCast]
  refine votesBy_any n (by omega) A1 c1 l1 (l1.map maskN) w hr1 h4 (by simp) ?_ ?_
  ·intro m hm
   obtain ⟨s, hs, rfl⟩ := List.mem_map.1 hm
   have := maskN_lt s (List.all_eq_true.1 h5 s hs)
   omega
  ·intro i hi
   have hmem : l1.getD i [] ∈ l1 := by simp [List.getD_eq_getElem?_getD, hi]
   obtain ⟨ad, A0, c0, _, _, _, hC0⟩ := at_L1 hr1 (i : Int) (by omega) (by omega)
   rw [show rd_L1 l1 (i : Int) = l1.getD i [] by simp [rd_L1]] at hC0
   refine ⟨_, (maskOf_f _ hC0.2.1 (List.all_eq_true.1 h5 _ hmem)).trans ?_⟩
   simp [List.getD_eq_getElem?_getD, hi]
 ·cases h
end Go.Proofs.YtnncjnjfdhbddaaGreat.Z
namespace Go.Proofs.YtnncjnjfdhbddaaGreat.Z
open Go.RowKit Go.Proofs.YtnncjnjfdhbddaaGreatW.PrintWords Go.Proofs.YtnncjnjfdhbddaaGreatW.PrintLast Go.Proofs.YtnncjnjfdhbddaaGreatW.PrintMore
attribute [local go_sem] max2_int min2_int max_two min_two max_three min_three max_four min_four
set_option linter.unusedVariables false
set_option linter.unusedSimpArgs false
def impl_Game_votes.f (a0_0 : Int) (l0_1 : List (List Int)) : Option (Int × List Bool) := (impl_votesBy.f a0_0 l0_1).bind fun bt147 => (some (bt147.1, bt147.2))
set_option maxHeartbeats 8000000 in
set_option maxRecDepth 100000 in
theorem impl_Game_votes.calls (a0_0 : Int) (A0_1 : Option Addr) (c0_1 : Nat) (l0_1 : List (List Int)) (r1 : Int) (r2 : List Bool) (w : World) (hr0_1 : Kd.C (Kd.slice 3 (Kd.int .i64)) w A0_1 l0_1.length l0_1) (hc0_1 : l0_1.length ≤ c0_1) (h : impl_Game_votes.f a0_0 l0_1 = some (r1, r2)) :
  Calls Tryz.prog 48 #[.agg #[.int .i64 a0_0, .slice A0_1 l0_1.length c0_1]] w fun e w' => ∃ v1_ : Value, e = .returned (.agg #[.int .i64 r1, v1_]) ∧ Kd.R Kd.bool 4 w' w.heap.size (fun _ => True) v1_ r2 ∧ Below w.heap.size w w' := by
 have hu28 := Tryz.underlying28
 have hu68 := Tryz.underlying68
 have HR0_1 := Aside0.mk hr0_1
 have HC0_1 := Aside0.mk hc0_1
 clear hr0_1 hc0_1
 have HB := Aside0.mk (Below.refl w.heap.size w)
 have H : ((impl_votesBy.f a0_0 l0_1).bind fun bt147 => (some (bt147.1, bt147.2))) = some (r1, r2) := h
 clear h
 replace H := Option.bind_eq_some_iff.mp H
 obtain ⟨⟨t147, t148⟩, A20, H⟩ := H
 replace H : (some (t147, t148)) = some (r1, r2) := H
 have A2 := Aside0.mk A20
 clear A20
 simp only [Option.some.injEq, Prod.mk.injEq] at H
 obtain ⟨rfl, rfl⟩ := H
 go_enter Tryz.func48, Tryz.ntmps48
 go_wp2_with (first | ((with_reducible refine gate_dst (N := 1) rfl ?_); refine box_event ?hg (N := 1) ?hd (cs := #[.int .i64 a0_0, .slice A0_1 l0_1.length c0_1]) (t := 28) ?hr ?_; (case hd => rfl); (case hg => rfl); (case hr => first | (go_simp; done) | (go_simp; rfl)); intro gb145 hg w3 hbox hb; have n0_ := Aside0.mk (below_step (by repeat (first | (with_reducible first | exact HB.out | apply below_alloc | apply pw_below_drewN | apply below_drew1) | exact HB.out)) hb); have n1_ := Aside0.mk (hbox); have n2_ := Aside0.mk ((by rw [hg]; exact (below_size (by repeat (first | (with_reducible first | exact HB.out | apply below_alloc | apply pw_below_drewN | apply below_drew1) | exact HB.out))) : w.heap.size ≤ gb145)); have n3_ := Aside0.mk ((by rw [hg]; exact (below_size (by repeat (first | (with_reducible first | exact HB.out | apply below_alloc | apply pw_below_drewN | apply below_drew1) | exact HB.out))) : w.heap.size ≤ gb145)); clear HB; have HB := n0_; have BK145 := n1_; have GW145 := n2_; have GE145 := n3_; clear n0_ n1_ n2_ n3_; clear hb hbox hg) | ((with_reducible refine gate_dst (N := 2) rfl ?_); refine box_event ?hg (N := 2) ?hd (cs := #[.int .i64 0, .slice none 0 0]) (t := 68) ?hr ?_; (case hd => rfl); (case hg => rfl); (case hr => first | (go_simp; done) | (go_simp; rfl)); intro gb146 hg w4 hbox hb; have n0_ := Aside0.mk (blk_below (g := gb145) (o := .cells #[.int .i64 a0_0, .slice A0_1 l0_1.length c0_1] 28 (0, 0)) (by (with_reducible repeat (first | refine blk_drewN ?_ _ | refine blk_drew ?_ | refine blk_alloc ?_ _)); exact BK145.out) hb); have n1_ := Aside0.mk (below_step (by repeat (first | (with_reducible first | exact HB.out | apply below_alloc | apply pw_below_drewN | apply below_drew1 | refine below_set ?_ GE145.out) | exact HB.out)) hb); have n2_ := Aside0.mk (hbox); have n3_ := Aside0.mk ((by rw [hg]; exact (below_size (by repeat (first | (with_reducible first | exact HB.out | apply below_alloc | apply pw_below_drewN | apply below_drew1 | refine below_set ?_ GE145.out) | exact HB.out))) : w.heap.size ≤ gb146)); have n4_ := Aside0.mk ((by rw [hg]; exact (below_size (by repeat (first | (with_reducible first | exact HB.out | apply below_alloc | apply pw_below_drewN | apply below_drew1 | refine below_set ?_ GE145.out) | exact HB.out))) : w.heap.size ≤ gb146)); have n5_ := Aside0.mk ((by rw [hg]; exact Nat.ne_of_lt (blk_lt (g := gb145) (o := .cells #[.int .i64 a0_0, .slice A0_1 l0_1.length c0_1] 28 (0, 0)) (by (with_reducible repeat (first | refine blk_drewN ?_ _ | refine blk_drew ?_ | refine blk_alloc ?_ _)); exact BK145.out)) : gb145 ≠ gb146)); have n6_ := Aside0.mk ((by rw [hg]; exact Nat.ne_of_gt (blk_lt (g := gb145) (o := .cells #[.int .i64 a0_0, .slice A0_1 l0_1.length c0_1] 28 (0, 0)) (by (with_reducible repeat (first | refine blk_drewN ?_ _ | refine blk_drew ?_ | refine blk_alloc ?_ _)); exact BK145.out)) : gb146 ≠ gb145)); clear BK145; clear HB; have BK145 := n0_; have HB := n1_; have BK146 := n2_; have GW146 := n3_; have GE146 := n4_; have NB145_146 := n5_; have NB146_145 := n6_; clear n0_ n1_ n2_ n3_ n4_ n5_ n6_; clear hb hbox hg; have hnb5 := NB145_146.out; have hnc5 := NB146_145.out; have hcz6_0 : w4.cell? ⟨gb145, 0, none⟩ = some (.int .i64 a0_0) := (blk_cell BK145.out 0).trans rfl; have hcz6_1 : w4.cell? ⟨gb145, 1, none⟩ = some (.slice A0_1 l0_1.length c0_1) := (blk_cell BK145.out 1).trans rfl; have hfz6_0 := blk_frozen BK145.out 0; have hfz6_1 := blk_frozen BK145.out 1) | ((with_reducible refine gate_callee (f := 76) rfl ?_); refine goesL_ (some 7) rfl rfl Tryz.func76 (by kernel_rfl) rfl #[.int .i64 a0_0, .slice A0_1 l0_1.length c0_1] rfl (by (try simp only [List.map_toArray, List.map_cons, List.map_nil]); first | done | rfl | (simp only [List.length_drop, List.length_take]; rfl)) ?_; (with_reducible refine (impl_votesBy.calls a0_0 _ _ l0_1 t147 t148 _ ?side1 ?side2 A2.out).mono ?_); (case side1 => repeat (first | exact (Kd.C_below HR0_1.out HB.out) | (with_reducible refine Kd.C_alloc ?_ _) | (with_reducible refine Kd.C_drewN ?_ _) | (with_reducible refine Kd.C_drew ?_))); (case side2 => exact HC0_1.out); rintro e w7 ⟨v149, rfl, ho0, hb⟩; refine ⟨_, rfl, ?_⟩; have n0_ := Aside0.mk (Kd.R_lower ho0 (below_size (by repeat (first | (with_reducible first | exact HB.out | apply below_alloc | apply pw_below_drewN | apply below_drew1 | refine below_set ?_ GE145.out | refine below_set ?_ GE146.out) | exact HB.out)))); have n1_ := Aside0.mk (blk_below (g := gb145) (o := .cells #[.int .i64 a0_0, .slice A0_1 l0_1.length c0_1] 28 (0, 0)) (by (with_reducible repeat (first | refine blk_drewN ?_ _ | refine blk_drew ?_ | refine blk_alloc ?_ _)); exact BK145.out) hb); have n2_ := Aside0.mk (blk_below (g := gb146) (o := .cells #[.int .i64 0, .slice none 0 0] 68 (0, 0)) (by (with_reducible repeat (first | refine blk_drewN ?_ _ | refine blk_drew ?_ | refine blk_alloc ?_ _)); exact BK146.out) hb); have n3_ := Aside0.mk (below_step (by repeat (first | (with_reducible first | exact HB.out | apply below_alloc | apply pw_below_drewN | apply below_drew1 | refine below_set ?_ GE145.out | refine below_set ?_ GE146.out) | exact HB.out)) hb); clear BK145; clear BK146; clear HB; have HO150 := n0_; have BK145 := n1_; have BK146 := n2_; have HB := n3_; clear n0_ n1_ n2_ n3_; (try clear hb); (try clear hb2); (try clear hk); (try clear hi); (try clear ho0); have hcz8_0 : w7.cell? ⟨gb146, 0, none⟩ = some (.int .i64 0) := (blk_cell BK146.out 0).trans rfl; have hcz8_1 : w7.cell? ⟨gb146, 1, none⟩ = some (.slice none 0 0) := (blk_cell BK146.out 1).trans rfl; have hfz8_0 := blk_frozen BK146.out 0; have hfz8_1 := blk_frozen BK146.out 1; obtain ⟨Ao9, co9, eo9⟩ := Kd.R_slice HO150.out; subst eo9))
 refine bodyPost_ret (results_cell_row rfl _ _ gb146 68 #[.int .i64 t147, .slice Ao9 t148.length co9] (0, 0) _ rfl (by (with_reducible repeat (first | refine blk_drewN ?_ _ | refine blk_drew ?_ | refine blk_alloc ?_ _)); refine blk_put (cs := #[.int .i64 t147, .slice none 0 0]) ?_ 1 _ rfl; (with_reducible repeat (first | refine blk_drewN ?_ _ | refine blk_drew ?_ | refine blk_alloc ?_ _)); refine blk_put (cs := #[.int .i64 0, .slice none 0 0]) ?_ 0 _ rfl; (with_reducible repeat (first | refine blk_drewN ?_ _ | refine blk_drew ?_ | refine blk_alloc ?_ _)); exact BK146.out) Tryz.underlying68 rfl (by kernel_rfl)) rfl ?_
 exact ⟨_, by first | rfl | (simp [errW_none, errW_some] <;> rfl) | (simp [*, errW_none, errW_some] <;> rfl), by (with_reducible repeat (first | apply Kd.R_alloc | apply Kd.R_drewN | apply Kd.R_drew)); exact Kd.R_mono (Kd.R_far (p := ⟨gb146, 1, none⟩) (Kd.R_far (p := ⟨gb146, 0, none⟩) (Kd.R_types HO150.out BK146.out (by decide)) (fun _ hk => hk.2) (.int .i64 t147)) (fun _ hk => hk.2) (.slice Ao9 t148.length co9)) (fun _ hk => trivial), by repeat (first | (with_reducible first | exact HB.out | apply below_alloc | apply pw_below_drewN | apply below_drew1 | refine below_set ?_ GE145.out | refine below_set ?_ GE146.out) | exact HB.out)⟩
end Go.Proofs.YtnncjnjfdhbddaaGreat.Z
namespace Go.Proofs.YtnncjnjfdhbddaaGreat.Z
open Go.RowKit Go.Proofs.YtnncjnjfdhbddaaGreatW.PrintWords Go.Proofs.YtnncjnjfdhbddaaGreatW.PrintLast Go.Proofs.YtnncjnjfdhbddaaGreatW.PrintMore
attribute [local go_sem] max2_int min2_int max_two min_two max_three min_three max_four min_four
set_option linter.unusedVariables false
set_option linter.unusedSimpArgs false
def toldV (n : Nat) (wins : List Bool) (c : S86) : S86 :=
 if c.f0 = 0 then ⟨0, c.f1, oneB (wins.getD c.f1.toNat false)⟩
 else if c.f0 = 1 then ⟨1, ((countW wins : Nat) : Int), 0⟩
 else if c.f0 = 2 then ⟨2, c.f1, oneB (!(wins.getD (2 ^ n - 1 - 2 ^ c.f1.toNat) false))⟩
 else if c.f0 = 3 then ⟨3, c.f1, (swingsL n wins).getD c.f1.toNat 0⟩
 else if c.f0 = 4 then ⟨4, oneB (properB n wins), 0⟩
 else ⟨5, oneB (strongB n wins), 0⟩
theorem inI_of {x lo hi : Int} (h : inI x lo hi = true) : lo ≤ x ∧ x ≤ hi := of_decide_eq_true h
set_option maxHeartbeats 1000000 in
theorem told_any (n : Nat) (hn : n ≤ 4) (wins : List Bool) (hw : wins.length = 2 ^ n) (x : S86) (hx : clueB (n : Int) x = true) (A : Option Addr) (c : Nat) (w : World) (hr : Kd.C Kd.bool w A wins.length wins) (hc : wins.length ≤ c) :
  Calls Tryz.prog 90 #[.agg #[.int .i64 (n : Int), .slice A wins.length c], .int .i64 x.f0, .int .i64 x.f1] w fun e w' => e = .returned (.agg #[.int .i64 (toldV n wins x).f0, .int .i64 (toldV n wins x).f1, .int .i64 (toldV n wins x).f2]) ∧ Below w.heap.size w w' := by
 have h16 : 2 ^ n ≤ 16 := Nat.le_trans (Nat.pow_le_pow_right (by decide) hn) (by decide)
 obtain ⟨k, a, b⟩ := x
 unfold clueB at hx
 unfold toldV
 simp only at hx ⊢
 by_cases h0 : k = 0
 ·subst h0
  simp only [if_true, Bool.and_eq_true] at hx ⊢
  have h1 := inI_of hx.1
  obtain ⟨a, rfl⟩ := Int.eq_ofNat_of_zero_le h1.1
  rw [Int.toNat_natCast]
  exact told_0 (n : Int) A c wins a (by have := h1.2; rw [Int.toNat_natCast] at this; rw [hw]; have e : ((2 : Int) ^ n) = ((2 ^ n : Nat) : Int) := (by simp); omega) w hr hc
 by_cases h1 : k = 1
 ·subst h1
  simp only [show ¬ (1 : Int) = 0 by decide, if_true, if_false] at hx ⊢
  exact told_1 (n : Int) A c wins.length a _ w (fun W hb => impl_votes_countWins.calls _ (n : Int) A c wins _ W (Kd.C_below hr hb) hc (countWins_f (n : Int) wins (by omega)))
 by_cases h2 : k = 2
 ·subst h2
  simp only [show ¬ (2 : Int) = 0 by decide, show ¬ (2 : Int) = 1 by decide, if_true, if_false, Bool.and_eq_true] at hx ⊢
  have h1 := inI_of hx.1
  obtain ⟨a, rfl⟩ := Int.eq_ofNat_of_zero_le h1.1
  rw [Int.toNat_natCast]
  have ha : a < n := by omega
  have hp : 2 ^ a < 2 ^ n := Nat.pow_lt_pow_right (by decide) ha
  exact told_2 n A c wins a (2 ^ n - 1 - 2 ^ a) ((2 ^ n - 1 : Nat) : Int) ((2 ^ a : Nat) : Int) (by rw [hw]; exact Nat.lt_of_le_of_lt (Nat.sub_le _ _) (by have := Nat.two_pow_pos n; omega)) w hr (by omega) (wrap_pow (by omega) rfl) (anti_f n hn _ hp) (fun W hb => impl_votes_all.calls (n : Int) A c wins _ W (Kd.C_below hr hb) hc (all_f n hn wins))
 by_cases h3 : k = 3
 ·subst h3
  simp only [show ¬ (3 : Int) = 0 by decide, show ¬ (3 : Int) = 1 by decide, show ¬ (3 : Int) = 2 by decide, if_true, if_false, Bool.and_eq_true] at hx ⊢
  have h1 := inI_of hx.1
  obtain ⟨a, rfl⟩ := Int.eq_ofNat_of_zero_le h1.1
  rw [Int.toNat_natCast]
  obtain ⟨f, hf⟩ := swings_f n hn wins hw
  exact told_3 (n : Int) A c wins.length a (swingsL n wins) (by simp [swingsL]; omega) w (fun W hb => impl_votes_swings.calls f (n : Int) A c wins _ W (Kd.C_below hr hb) hc hf)
 by_cases h4 : k = 4
 ·subst h4
  simp only [show ¬ (4 : Int) = 0 by decide, show ¬ (4 : Int) = 1 by decide, show ¬ (4 : Int) = 2 by decide, show ¬ (4 : Int) = 3 by decide, if_true, if_false] at hx ⊢
  exact told_4 (n : Int) A c wins.length a _ w (fun W hb => impl_votes_isProper.calls _ (n : Int) A c wins _ W (Kd.C_below hr hb) hc (proper_f n hn wins hw))
 by_cases h5 : k = 5
 ·subst h5
  simp only [show ¬ (5 : Int) = 0 by decide, show ¬ (5 : Int) = 1 by decide, show ¬ (5 : Int) = 2 by decide, show ¬ (5 : Int) = 3 by decide, show ¬ (5 : Int) = 4 by decide, if_true, if_false] at hx ⊢
  exact told_5 (n : Int) A c wins.length a _ w (fun W hb => impl_votes_isStrong.calls _ (n : Int) A c wins _ W (Kd.C_below hr hb) hc (strong_f n hn wins hw))
 simp [h0, h1, h2, h3, h4, h5] at hx
end Go.Proofs.YtnncjnjfdhbddaaGreat.Z
namespace Go.Proofs.YtnncjnjfdhbddaaGreat.Z
open Go.RowKit Go.Proofs.YtnncjnjfdhbddaaGreatW.PrintWords Go.Proofs.YtnncjnjfdhbddaaGreatW.PrintLast Go.Proofs.YtnncjnjfdhbddaaGreatW.PrintMore
attribute [local go_sem] max2_int min2_int max_two min_two max_three min_three max_four min_four
set_option linter.unusedVariables false
set_option linter.unusedSimpArgs false
def neC (x y : S86) : Bool := !(x.f0 == y.f0) || (!(x.f1 == y.f1) || !(x.f2 == y.f2))
theorem eqA86 (d : Nat) (w : World) (x0 y0 x1 y1 x2 y2 : Int) : (Op.equalIn (d + 2) 86 (.agg #[.int .i64 x0, .int .i64 x1, .int .i64 x2]) (.agg #[.int .i64 y0, .int .i64 y1, .int .i64 y2])).run Tryz.prog w = .ok (x0 == y0 && (x1 == y1 && (x2 == y2))) w := by
 refine eqA_of Tryz.underlying86 (by kernel_rfl) ?_
 refine eqf_cons (by rfl) (by go_simp; rfl) (by go_simp; rfl) (by go_simp) ?_
 refine eqf_cons (by rfl) (by go_simp; rfl) (by go_simp; rfl) (by go_simp) ?_
 exact eqf_last (by rfl) (by go_simp; rfl) (by go_simp; rfl) (by go_simp)
attribute [local go_sem high] eqA86
set_option maxRecDepth 100000 in
set_option maxHeartbeats 4000000 in
theorem solutions_fn11 (n : Nat) (hn : n ≤ 4) (wins : List Bool) (hw : wins.length = 2 ^ n) (x : S86) (hx : clueB (n : Int) x = true) (A : Option Addr) (c b : Nat) (W : World) (hr : Kd.C Kd.bool W A wins.length wins) (hc : wins.length ≤ c)
  (hb : W.heap[b]? = some (.cells #[.int .i64 (n : Int), .slice A wins.length c] 68 (0, 0))) :
  Calls Tryz.prog 89 #[.agg #[.int .i64 x.f0, .int .i64 x.f1, .int .i64 x.f2], .pointer (some ⟨b, 0, none⟩)] W fun e w' => e = .returned (.bool (neC (toldV n wins x) x)) ∧ Below W.heap.size W w' := by
 have hu68 := Tryz.underlying68
 have hu86 := Tryz.underlying86
 have ht := fun W' (hB : Below W.heap.size W W') => told_any n hn wins hw x hx A c W' (Kd.C_below hr hB) hc
 have hlt := blk_lt hb
 have hc0 : ∀ o, (W.alloc o).cell? ⟨b, 0, none⟩ = some (.int .i64 (n : Int)) := fun o => (World.cell?_alloc_lt _ _ _ (by simpa using hlt)).trans ((blk_cell hb 0).trans rfl)
 have hc1 : ∀ o, (W.alloc o).cell? ⟨b, 1, none⟩ = some (.slice A wins.length c) := fun o => (World.cell?_alloc_lt _ _ _ (by simpa using hlt)).trans ((blk_cell hb 1).trans rfl)
 have HB := Aside0.mk hb
 have HT := Aside0.mk ht
 have HLT := Aside0.mk hlt
 unfold neC
 generalize toldV n wins x = y at HT ⊢
 obtain ⟨k, a, d⟩ := x
 obtain ⟨k', a', d'⟩ := y
 simp only at HT ⊢
 clear hb ht hr hlt hx hw
 generalize wins.length = N at *
 go_enter Tryz.func89, Tryz.ntmps89
 go_wp2
 go_region_held3 (fun w' => w'.cell? ⟨b, 0, none⟩ = some (.int .i64 (n : Int)) ∧ w'.cell? ⟨b, 1, none⟩ = some (.slice A N c) ∧ w'.cell? ⟨W.heap.size, 0, none⟩ = some (.int .i64 k) ∧ w'.cell? ⟨W.heap.size, 1, none⟩ = some (.int .i64 a) ∧ w'.cell? ⟨W.heap.size, 2, none⟩ = some (.int .i64 d)) (go_keep)
  (first | (go_at_call 90; refine (HT.out _ (pw_below_drewN ((Below.refl _ _).alloc (Nat.le_refl _) _) _)).mono ?_; rintro e w1 ⟨rfl, hb1⟩; have hz := blk_below (blk_drewN (heap1_0 W _) _) hb1; have hz0 : w1.cell? ⟨W.heap.size, 0, none⟩ = some (.int .i64 k) := (blk_cell hz 0).trans rfl; have hz1 : w1.cell? ⟨W.heap.size, 1, none⟩ = some (.int .i64 a) := (blk_cell hz 1).trans rfl; have hz2 : w1.cell? ⟨W.heap.size, 2, none⟩ = some (.int .i64 d) := (blk_cell hz 2).trans rfl; have hB2 : Below W.heap.size W w1 := Below.trans (pw_below_drewN ((Below.refl _ _).alloc (Nat.le_refl _) _) _) (hb1.mono (by simp)); have hy := blk_below HB.out hB2; have hy0 : w1.cell? ⟨b, 0, none⟩ = some (.int .i64 (n : Int)) := (blk_cell hy 0).trans rfl; have hy1 : w1.cell? ⟨b, 1, none⟩ = some (.slice A N c) := (blk_cell hy 1).trans rfl; have HB2 := Aside0.mk hB2; clear hb1 hz hy hB2))
 all_goals go_wp2
 all_goals go_ret
 all_goals exact ⟨rfl, HB2.out⟩
def offG (n : Nat) (clues : List S86) (g : S28) : Bool := clues.any fun c => neC (toldV n (tableOf n g.f1) c) c
set_option maxRecDepth 100000 in
set_option maxHeartbeats 2000000 in
theorem solutions_fn1 (n : Nat) (hn : n ≤ 4) (clues : List S86) (hcl : ∀ c ∈ clues, clueB (n : Int) c = true) (x : S28) (hx0 : x.f0 = (n : Int)) (hby : byOk (n : Int) x.f1 = true) (A0 : Option Addr) (c0 : Nat) (Ac : Option Addr) (cc b : Nat) (W : World)
  (hr : Kd.C (Kd.slice 3 (Kd.int .i64)) W A0 x.f1.length x.f1) (hc : x.f1.length ≤ c0) (hrc : Kd.C k86 W Ac clues.length clues) (hb : W.heap[b]? = some (.cells #[.slice Ac clues.length cc] 39 (0, 0))) :
  Calls Tryz.prog 87 #[.agg #[.int .i64 x.f0, .slice A0 x.f1.length c0], .pointer (some ⟨b, 0, none⟩)] W fun e w' => e = .returned (.bool (offG n clues x)) ∧ Below W.heap.size W w' := by
 have hu68 := Tryz.underlying68
 have hu28 := Tryz.underlying28
 have hv := fun W' (hB : Below W.heap.size W W') => impl_Game_votes.calls (n : Int) A0 c0 x.f1 (n : Int) (tableOf n x.f1) W' (Kd.C_below hr hB) hc (by simp [impl_Game_votes.f, impl_votesBy.f, hby])
 have hlt := blk_lt hb
 have hlen : (tableOf n x.f1).length = 2 ^ n := by simp [tableOf]
 have eg : ∀ args w, (callFunc 89 args).run Tryz.prog w = .ok (.enter 89 args) w := enters_of Tryz.func89 (by kernel_rfl) rfl
 rw [offG, hx0]
 have hcf := fun (W' : World) (hB : Below W.heap.size W W') (A : Option Addr) (c b' : Nat) (h1 : Kd.C Kd.bool W' A (tableOf n x.f1).length (tableOf n x.f1)) (h2 : (tableOf n x.f1).length ≤ c) (h3 : W'.heap[b']? = some (.cells #[.int .i64 (n : Int), .slice A (tableOf n x.f1).length c] 68 (0, 0))) =>
  containsFunc_cl (fun c => neC (toldV n (tableOf n x.f1) c) c) 89 #[.pointer (some ⟨b', 0, none⟩)] Ac cc clues W' eg (Kd.C_below hrc hB)
   (fun W2 y hy hB2 => solutions_fn11 n hn _ hlen y (hcl y hy) A c b' W2 (Kd.C_below h1 hB2) h2 (blk_below h3 hB2))
 generalize (clues.any fun c => neC (toldV n (tableOf n x.f1) c) c) = q at hcf ⊢
 generalize tableOf n x.f1 = wins at hv hcf hlen
 have HB := Aside0.mk hb
 have HV := Aside0.mk hv
 have HCF := Aside0.mk hcf
 have HLT := Aside0.mk hlt
 clear hv hcf hb hr hrc hcl hby hlt hx0 hlen eg
 generalize x.f1.length = L at *
 generalize clues.length = M at *
 have hca : ∀ o, (W.alloc o).cell? ⟨b, 0, none⟩ = some (.slice Ac M cc) := fun o => (World.cell?_alloc_lt _ _ _ (by simpa using HLT.out)).trans ((blk_cell HB.out 0).trans rfl)
 go_enter Tryz.func87, Tryz.ntmps87
 go_wp2_with (first | (go_at_call 48; refine (HV.out _ ((Below.refl _ _).alloc (Nat.le_refl _) _)).mono ?_; rintro e w1 ⟨v1, rfl, ho, hb1⟩; obtain ⟨A1, c1, rfl, hl1, hC1⟩ := Kd.R_reads ho; have hbw : Below W.heap.size W w1 := Below.trans ((Below.refl _ _).alloc (Nat.le_refl _) _) (hb1.mono (by simp)); have hca1 : ∀ o, (w1.alloc o).cell? ⟨b, 0, none⟩ = some (.slice Ac M cc) := (fun o => (World.cell?_alloc_lt _ _ _ (by have h1 := HLT.out; have h2 := hbw.size; simp only; omega)).trans ((blk_cell (blk_below HB.out hbw) 0).trans rfl)); have HC1 := Aside0.mk hC1; have HBW := Aside0.mk hbw; clear ho hb1 hC1 hbw) | (go_at_call 88; refine (HCF.out _ (HBW.out.alloc HBW.out.size _) A1 c1 w1.heap.size (Kd.C_alloc HC1.out _) hl1 (heap1_0 _ _)).mono ?_; rintro e w2 ⟨rfl, hb2⟩; have HB2 := Aside0.mk hb2; clear hb2))
 go_ret
 exact ⟨rfl, Below.trans (HBW.out.alloc HBW.out.size _) (HB2.out.mono (by have := HBW.out.size; simp; omega))⟩
end Go.Proofs.YtnncjnjfdhbddaaGreat.Z
namespace Go.Proofs.YtnncjnjfdhbddaaGreat.Z
open Go.RowKit Go.Proofs.YtnncjnjfdhbddaaGreatW.PrintWords Go.Proofs.YtnncjnjfdhbddaaGreatW.PrintLast Go.Proofs.YtnncjnjfdhbddaaGreatW.PrintMore
attribute [local go_sem] max2_int min2_int max_two min_two max_three min_three max_four min_four
set_option linter.unusedVariables false
set_option linter.unusedSimpArgs false
def spec_pzOne.f (a0 : Bool) : Option (Int) := if a0 = true then (some 1) else (some 0)
set_option maxHeartbeats 8000000 in
set_option maxRecDepth 100000 in
theorem spec_pzOne.calls (a0 : Bool) (r : Int) (w : World) (h : spec_pzOne.f a0 = some r) :
  Calls Tryz.prog 176 #[.bool a0] w fun e w' => e = .returned (.int .i64 r) ∧ Drawn0 w w' := by
 have H : (if a0 = true then (some 1) else (some 0)) = some r := h
 clear h
 by_cases c2 : a0 = true
 ·subst c2
  have H1 : (some 1) = some r := by rw [if_pos rfl] at H; exact H
  clear H
  have H := H1
  clear H1
  obtain rfl := Option.some.inj H
  go_enter Tryz.func176, Tryz.ntmps176
  go_wp2
  go_ret
  exact ⟨by first | rfl | (simp; done) | (simp [*]; done), by repeat (first | exact Drawn0.refl _ | apply Drawn0.step)⟩
 ·replace c2 := Bool.eq_false_iff.mpr c2
  subst c2
  have H1 : (some 0) = some r := by rw [if_neg (show ¬ (false = true) by decide)] at H; exact H
  clear H
  have H := H1
  clear H1
  obtain rfl := Option.some.inj H
  go_enter Tryz.func176, Tryz.ntmps176
  go_wp2
  go_ret
  exact ⟨by first | rfl | (simp; done) | (simp [*]; done), by repeat (first | exact Drawn0.refl _ | apply Drawn0.step)⟩
end Go.Proofs.YtnncjnjfdhbddaaGreat.Z
