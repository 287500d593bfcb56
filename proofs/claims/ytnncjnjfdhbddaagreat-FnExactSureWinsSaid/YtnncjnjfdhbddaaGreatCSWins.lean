/- The law FnExactSureWins answers true for every puzzle: no condition is laid on the argument. -/
import Derived.Test.YtnncjnjfdhbddaaGreatCSWins1
import Derived.Test.YtnncjnjfdhbddaaGreatCSWins2
import Derived.Test.YtnncjnjfdhbddaaGreatCSWins3
import Derived.Test.YtnncjnjfdhbddaaGreatCSWins4
import Derived.Test.YtnncjnjfdhbddaaGreatCSWins5
import Derived.Deep.RegionLaw
import Derived.Deep.QuietTactic
import Derived.BigQuiet
import Derived.Lib.SmallJoins
import Derived.Deep.Slices
import Derived.Test.YtnncjnjfdhbddaaGreatRows
import Derived.WalkKit
import Derived.ProofKit
import Derived.OpenShut
import Derived.ShutString
import Derived.ChangeOld
import Derived.Below
import Derived.SizedLaws
import Derived.Carry
namespace Go.Proofs.YtnncjnjfdhbddaaGreat.Z
open Go.RowKit Go.Proofs.YtnncjnjfdhbddaaGreatW.PrintWords Go.Proofs.YtnncjnjfdhbddaaGreatW.PrintLast Go.Proofs.YtnncjnjfdhbddaaGreatW.PrintMore
attribute [local go_sem] max2_int min2_int max_two min_two max_three min_three max_four min_four
set_option linter.unusedVariables false
set_option linter.unusedSimpArgs false
theorem eqIntS_l (l : List Int) (hl : l.length ≤ 2 ^ 61) : ∀ (d j k : Nat), j + d = l.length → d < k → laws_eqIntS.l0 k l l (j : Int) = some true
 | 0, j, k, h, hk => by
  obtain ⟨k, rfl⟩ : ∃ m, k = m + 1 := ⟨k - 1, by omega⟩
  rw [laws_eqIntS.l0, if_neg (by omega)]
 | d + 1, j, k, h, hk => by
  obtain ⟨k, rfl⟩ : ∃ m, k = m + 1 := ⟨k - 1, by omega⟩
  rw [laws_eqIntS.l0, if_pos (by omega), if_pos (by omega), if_pos (by omega), if_pos rfl, wrap64_nat1 j (by omega)]
  exact eqIntS_l l hl d (j + 1) k (by omega) (by omega)
theorem eqIntS_f (l : List Int) (hl : l.length ≤ 2 ^ 61) (k : Nat) (hk : l.length < k) : laws_eqIntS.f k l l = some true := by
 rw [laws_eqIntS.f, if_pos rfl]
 exact eqIntS_l l hl l.length 0 k (by omega) hk
def markL (m n : Nat) : List Int := (List.range n).map fun i => ((m + i : Nat) : Int)
def markUpto (l : List Int) (m j : Nat) : List Int := markL m j ++ l.drop j
theorem markUpto_set (l : List Int) (m j : Nat) (h : j < l.length) : (markUpto l m j).set j ((m + j : Nat) : Int) = markUpto l m (j + 1) := by
 unfold markUpto
 have e : markL m (j + 1) = markL m j ++ [((m + j : Nat) : Int)] := by simp only [markL, List.range_succ, List.map_append, List.map_cons, List.map_nil]
 rw [List.set_append_right _ _ (by simp [markL]), show j - (markL m j).length = 0 by simp [markL], List.drop_eq_getElem_cons h, List.set_cons_zero, e, List.append_assoc]
 rfl
theorem markUpto_len (l : List Int) (m j : Nat) (h : j ≤ l.length) : (markUpto l m j).length = l.length := by
 simp [markUpto, markL]; omega
theorem markIntS_l (l : List Int) (m : Nat) (hl : l.length ≤ 2 ^ 60) (hm : m ≤ 2 ^ 60) : ∀ (d j k : Nat), j + d = l.length → d < k → laws_markIntS.l0 k (markUpto l m j) ((m + j : Nat) : Int) (j : Int) = some (((m + l.length : Nat) : Int), markL m l.length)
 | 0, j, k, h, hk => by
  obtain ⟨k, rfl⟩ : ∃ m, k = m + 1 := ⟨k - 1, by omega⟩
  obtain rfl : j = l.length := by omega
  rw [laws_markIntS.l0, if_neg (by rw [markUpto_len l m _ (by omega)]; omega)]
  simp [markUpto]
 | d + 1, j, k, h, hk => by
  obtain ⟨k, rfl⟩ : ∃ m, k = m + 1 := ⟨k - 1, by omega⟩
  rw [laws_markIntS.l0, if_pos (by rw [markUpto_len l m _ (by omega)]; omega), if_pos (by omega), Int.toNat_natCast, wrap64_nat1 (m + j) (by omega), wrap64_nat1 j (by omega), markUpto_set l m j (by omega)]
  exact markIntS_l l m hl hm d (j + 1) k (by omega) (by omega)
theorem markIntS_f (l : List Int) (m : Nat) (hl : l.length ≤ 2 ^ 60) (hm : m ≤ 2 ^ 60) (k : Nat) (hk : l.length < k) : laws_markIntS.f k l (m : Int) = some (((m + l.length : Nat) : Int), markL m l.length) := by
 rw [laws_markIntS.f]
 exact markIntS_l l m hl hm l.length 0 k (by omega) hk
theorem markL_rd (m n j : Nat) (h : j < n) : rd (markL m n) (j : Int) = ((m + j : Nat) : Int) := by
 simp [rd, markL, List.getD_eq_getElem?_getD, h]
theorem heldIntS_l (m n : Nat) (hn : n ≤ 2 ^ 60) (hm : m ≤ 2 ^ 60) : ∀ (d j k : Nat), j + d = n → d < k → laws_heldIntS.l0 k (markL m n) ((m + j : Nat) : Int) (j : Int) = some ((m + n : Nat) : Int)
 | 0, j, k, h, hk => by
  obtain ⟨k, rfl⟩ : ∃ m, k = m + 1 := ⟨k - 1, by omega⟩
  obtain rfl : j = n := by omega
  rw [laws_heldIntS.l0, if_neg (by simp [markL])]
 | d + 1, j, k, h, hk => by
  obtain ⟨k, rfl⟩ : ∃ m, k = m + 1 := ⟨k - 1, by omega⟩
  rw [laws_heldIntS.l0, if_pos (by simp [markL]; omega), if_pos (by omega), if_pos (markL_rd m n j (by omega)), wrap64_nat1 (m + j) (by omega), wrap64_nat1 j (by omega)]
  exact heldIntS_l m n hn hm d (j + 1) k (by omega) (by omega)
theorem heldIntS_f (m n : Nat) (hn : n ≤ 2 ^ 60) (hm : m ≤ 2 ^ 60) (k : Nat) (hk : n < k) : laws_heldIntS.f k (markL m n) (m : Int) = some ((m + n : Nat) : Int) := by
 rw [laws_heldIntS.f]
 exact heldIntS_l m n hn hm n 0 k (by omega) hk
theorem szPuzzle_f (n : Int) (l : List S103) (hl : l.length ≤ 9223372036854775807) : laws_szPuzzle.f n l 1048576 = some (if l.length ≤ 1048576 then ((1048576 - l.length : Nat) : Int) else -1) := by
 rw [laws_szPuzzle.f, laws_szClueS.f]
 have e : wrap64 (1048576 - (l.length : Int)) = 1048576 - (l.length : Int) := by unfold wrap64; omega
 rw [e]
 by_cases h : l.length ≤ 1048576
 ·rw [if_neg (by omega), if_pos h, Option.bind_some, if_neg (by omega)]
  congr 1; omega
 ·rw [if_pos (by omega), if_neg h, Option.bind_some, if_pos (by omega)]
def toC (x : S103) : S86 := ⟨x.f0, x.f1, x.f2⟩
theorem toClueS_l (l : List S103) (hl : l.length ≤ 1048576) : ∀ (d j k : Nat), j + d = l.length → d < k → laws_toClueS.l0 k l ((l.take j).map toC ++ List.replicate (l.length - j) z86) (j : Int) = some (l.map toC)
 | 0, j, k, h, hk => by
  obtain ⟨k, rfl⟩ : ∃ m, k = m + 1 := ⟨k - 1, by omega⟩
  obtain rfl : j = l.length := by omega
  rw [laws_toClueS.l0, if_neg (by omega)]
  simp
 | d + 1, j, k, h, hk => by
  obtain ⟨k, rfl⟩ : ∃ m, k = m + 1 := ⟨k - 1, by omega⟩
  have hj : j < l.length := by omega
  have e1 : rd_T103 l (j : Int) = l[j] := by simp [rd_T103, List.getD_eq_getElem?_getD, hj]
  have e2 : ((l.take j).map toC ++ List.replicate (l.length - j) z86).set j (toC l[j]) = (l.take (j + 1)).map toC ++ List.replicate (l.length - (j + 1)) z86 := by
   obtain ⟨c, hc⟩ : ∃ c, l.length - j = c + 1 := ⟨l.length - j - 1, by omega⟩
   have hlt : ((l.take j).map toC).length = j := by rw [List.length_map, List.length_take]; omega
   rw [List.set_append_right _ _ (by omega), hlt, hc, show l.length - (j + 1) = c by omega, List.take_succ_eq_append_getElem hj, Nat.sub_self, List.replicate_succ, List.set_cons_zero, List.map_append, List.append_assoc]
   rfl
  rw [laws_toClueS.l0, if_pos (by omega), if_pos (by omega), laws_toClue.f, Option.bind_some, if_pos (by simp; omega), e1, Int.toNat_natCast, wrap64_nat1 j (by omega)]
  show laws_toClueS.l0 k l (((l.take j).map toC ++ List.replicate (l.length - j) z86).set j (toC l[j])) ((j + 1 : Nat) : Int) = _
  rw [e2]
  exact toClueS_l l hl d (j + 1) k (by omega) (by omega)
theorem toPuzzle_f (n : Int) (l : List S103) (hl : l.length ≤ 1048576) (k : Nat) (hk : l.length < k) : laws_toPuzzle.f k n l = some (n, l.map toC) := by
 rw [laws_toPuzzle.f, laws_toClueS.f, if_pos (by omega), Int.toNat_natCast, if_pos (by omega)]
 have := toClueS_l l hl l.length 0 k (by omega) hk
 simp only [List.take_zero, List.map_nil, List.nil_append, Nat.sub_zero] at this
 rw [show (0 : Int) = ((0 : Nat) : Int) from rfl, this]
 rfl
theorem eqClueS_l (l : List S86) (hl : l.length ≤ 2 ^ 60) : ∀ (d j k : Nat), j + d = l.length → d < k → laws_eqClueS.l0 k l l (j : Int) = some true
 | 0, j, k, h, hk => by
  obtain ⟨k, rfl⟩ : ∃ m, k = m + 1 := ⟨k - 1, by omega⟩
  rw [laws_eqClueS.l0, if_neg (by omega)]
 | d + 1, j, k, h, hk => by
  obtain ⟨k, rfl⟩ : ∃ m, k = m + 1 := ⟨k - 1, by omega⟩
  rw [laws_eqClueS.l0, if_pos (by omega), if_pos (by omega), if_pos (by omega), laws_eqClue.f, if_pos rfl, if_pos rfl, if_pos rfl, Option.bind_some, if_pos rfl, wrap64_nat1 j (by omega)]
  exact eqClueS_l l hl d (j + 1) k (by omega) (by omega)
theorem eqPuzzle_f (n : Int) (l : List S86) (hl : l.length ≤ 2 ^ 60) (k : Nat) (hk : l.length < k) : laws_eqPuzzle.f k n l n l = some true := by
 rw [laws_eqPuzzle.f, if_pos rfl, laws_eqClueS.f, if_pos rfl]
 rw [show (0 : Int) = ((0 : Nat) : Int) from rfl, eqClueS_l l hl l.length 0 k (by omega) hk]
 rfl
def markC (m n : Nat) : List S86 := (List.range n).map fun i => ⟨((m + 3 * i : Nat) : Int), ((m + 3 * i + 1 : Nat) : Int), ((m + 3 * i + 2 : Nat) : Int)⟩
def markCU (l : List S86) (m j : Nat) : List S86 := markC m j ++ l.drop j
theorem markCU_len (l : List S86) (m j : Nat) (h : j ≤ l.length) : (markCU l m j).length = l.length := by
 simp [markCU, markC]; omega
theorem markCU_set (l : List S86) (m j : Nat) (h : j < l.length) : (markCU l m j).set j ⟨((m + 3 * j : Nat) : Int), ((m + 3 * j + 1 : Nat) : Int), ((m + 3 * j + 2 : Nat) : Int)⟩ = markCU l m (j + 1) := by
 unfold markCU
 have e : markC m (j + 1) = markC m j ++ [⟨((m + 3 * j : Nat) : Int), ((m + 3 * j + 1 : Nat) : Int), ((m + 3 * j + 2 : Nat) : Int)⟩] := by simp only [markC, List.range_succ, List.map_append, List.map_cons, List.map_nil]
 rw [List.set_append_right _ _ (by simp [markC]), show j - (markC m j).length = 0 by simp [markC], List.drop_eq_getElem_cons h, List.set_cons_zero, e, List.append_assoc]
 rfl
theorem rdT_set (l : List S86) (j : Nat) (x : S86) (h : j < l.length) : rd_T86 (l.set j x) (j : Int) = x := by
 simp [rd_T86, List.getD_eq_getElem?_getD, h]
theorem markClueS_l (l : List S86) (m : Nat) (hl : l.length ≤ 2 ^ 40) (hm : m ≤ 2 ^ 40) : ∀ (d j k : Nat), j + d = l.length → d < k → laws_markClueS.l0 k (markCU l m j) ((m + 3 * j : Nat) : Int) (j : Int) = some (((m + 3 * l.length : Nat) : Int), markC m l.length)
 | 0, j, k, h, hk => by
  obtain ⟨k, rfl⟩ : ∃ m, k = m + 1 := ⟨k - 1, by omega⟩
  obtain rfl : j = l.length := by omega
  rw [laws_markClueS.l0, if_neg (by rw [markCU_len l m _ (by omega)]; omega)]
  simp [markCU]
 | d + 1, j, k, h, hk => by
  obtain ⟨k, rfl⟩ : ∃ m, k = m + 1 := ⟨k - 1, by omega⟩
  have hlen := markCU_len l m j (by omega)
  rw [laws_markClueS.l0, if_pos (by rw [hlen]; omega), if_pos (by omega), Option.bind_some, Option.bind_some, Int.toNat_natCast, wrap64_nat1 j (by omega), wrap64_nat1 (m + 3 * j) (by omega), wrap64_nat1 (m + 3 * j + 1) (by omega), wrap64_nat1 (m + 3 * j + 1 + 1) (by omega)]
  have h3 : ∀ x, rd_T86 ((markCU l m j).set j x) (j : Int) = x := fun x => rdT_set _ j x (by rw [hlen]; omega)
  simp only [h3, List.set_set]
  have e := markCU_set l m j (by omega)
  rw [show m + 3 * j + 1 + 1 = m + 3 * j + 2 by omega, e, show m + 3 * j + 2 + 1 = m + 3 * (j + 1) by omega]
  exact markClueS_l l m hl hm d (j + 1) k (by omega) (by omega)
theorem markPuzzle_f (n : Int) (l : List S86) (m : Nat) (hl : l.length ≤ 2 ^ 40) (hm : m ≤ 2 ^ 40) (k : Nat) (hk : l.length < k) : laws_markPuzzle.f k n l (m : Int) = some (((m + 3 * l.length : Nat) : Int), markC m l.length) := by
 rw [laws_markPuzzle.f, laws_markClueS.f]
 have := markClueS_l l m hl hm l.length 0 k (by omega) hk
 simp only [Nat.mul_zero, Nat.add_zero] at this
 rw [show (0 : Int) = ((0 : Nat) : Int) from rfl]
 rw [show markCU l m 0 = l from rfl] at this
 rw [this]
 rfl
theorem l1In_f (a lo hi : Int) : spec_l1In.f a lo hi = some (inI a lo hi) := by
 rw [spec_l1In.f, inI]
 by_cases h : lo ≤ a <;> by_cases h2 : a ≤ hi <;> simp [h, h2]
theorem pzMembers_f (a : Int) : spec_pzMembers.f a = some (inI a 1 4) := by
 rw [spec_pzMembers.f, l1In_f]; rfl
theorem pzClue_f (n : Int) (h1 : 1 ≤ n) (h4 : n ≤ 4) (c : S86) : spec_pzClue.f n c.f0 c.f1 c.f2 = some (clueB n c) := by
 rw [spec_pzClue.f, if_pos (show inI n 1 4 = true from decide_eq_true ⟨h1, h4⟩)]
theorem pzGood_l (n : Int) (h1 : 1 ≤ n) (h4 : n ≤ 4) (l : List S86) (hl : l.length ≤ 2 ^ 60) : ∀ (d j k : Nat), j + d = l.length → d < k → spec_pzGood.l0 k l (l.length : Int) (j : Int) n l = some ((l.drop j).all (clueB n))
 | 0, j, k, h, hk => by
  obtain ⟨k, rfl⟩ : ∃ m, k = m + 1 := ⟨k - 1, by omega⟩
  rw [spec_pzGood.l0, if_neg (by omega), List.drop_eq_nil_of_le (by omega)]
  rfl
 | d + 1, j, k, h, hk => by
  obtain ⟨k, rfl⟩ : ∃ m, k = m + 1 := ⟨k - 1, by omega⟩
  have hj : j < l.length := by omega
  have e1 : rd_T86 l (j : Int) = l[j] := by simp [rd_T86, List.getD_eq_getElem?_getD, hj]
  rw [spec_pzGood.l0, if_pos (by omega), if_pos (by omega), if_pos (by omega), pzClue_f n h1 h4, Option.bind_some, wrap64_nat1 j (by omega), pzGood_l n h1 h4 l hl d (j + 1) k (by omega) (by omega), List.drop_eq_getElem_cons hj, List.all_cons, e1]
  cases clueB n l[j] <;> simp
theorem pzGood_f (n : Int) (l : List S86) (hl : l.length ≤ 2 ^ 60) (k : Nat) (hk : l.length + 1 < k) : spec_pzGood.f k n l = some (puzzB n l) := by
 obtain ⟨k, rfl⟩ : ∃ m, k = m + 1 := ⟨k - 1, by omega⟩
 rw [spec_pzGood.f, pzMembers_f, Option.bind_some, puzzB]
 cases hi : inI n 1 4 with
 | false => rw [if_neg (by simp), spec_pzGood.j0, if_pos rfl]; rfl
 | true =>
  have hn := inI_of hi
  rw [if_pos rfl, spec_pzGood.j0]
  have := pzGood_l n hn.1 hn.2 l hl l.length 0 k (by omega) (by omega)
  rw [show (0 : Int) = ((0 : Nat) : Int) from rfl, this]
  by_cases h8 : l.length ≤ 8
  ·rw [if_neg (by simp; omega)]; simp [h8]
  ·rw [if_pos (by simp; omega)]; simp [h8]
theorem pzAll_f (n : Nat) (l : List S86) (hi : inI (n : Int) 1 4 = true) (hl : l.all (clueB (n : Int)) = true) (hlen : l.length ≤ 1000) : spec_pzAll.f (n : Int) l = some (solsG n l) := by
 rw [spec_pzAll.f, if_pos ⟨hi, hl, hlen⟩, Int.toNat_natCast]
end Go.Proofs.YtnncjnjfdhbddaaGreat.Z
namespace Go.Proofs.YtnncjnjfdhbddaaGreat.Z
open Go.RowKit Go.Proofs.YtnncjnjfdhbddaaGreatW.PrintWords Go.Proofs.YtnncjnjfdhbddaaGreatW.PrintLast Go.Proofs.YtnncjnjfdhbddaaGreatW.PrintMore
attribute [local go_sem] max2_int min2_int max_two min_two max_three min_three max_four min_four
set_option linter.unusedVariables false
set_option linter.unusedSimpArgs false
def rowF (N : Nat) (f : Nat → Bool) : List Bool := (List.range N).map f
theorem rowF_len (N : Nat) (f : Nat → Bool) : (rowF N f).length = N := by simp [rowF]
theorem rowF_get (N : Nat) (f : Nat → Bool) (j : Nat) (h : j < N) : (rowF N f).getD j false = f j := by simp [rowF, List.getD_eq_getElem?_getD, h]
theorem rowF_set (N : Nat) (f f' : Nat → Bool) (j : Nat) (h : ∀ m, m < N → (if m = j then f' j else f m) = f' m) : (rowF N f).set j (f' j) = rowF N f' := by
 apply List.ext_getElem (by simp [rowF])
 intro i h1 h2
 have hi : i < N := by simpa [rowF] using h2
 rw [List.getElem_set]
 have := h i hi
 by_cases e : j = i
 ·subst e; simp [rowF]
 ·rw [if_neg e]
  rw [if_neg (Ne.symm e)] at this
  simpa [rowF] using this
theorem mix_set (N : Nat) (f0 f1 : Nat → Bool) (j : Nat) : (rowF N (fun q => if q < j then f1 q else f0 q)).set j (f1 j) = rowF N (fun q => if q < j + 1 then f1 q else f0 q) := by
 have h := rowF_set N (fun q => if q < j then f1 q else f0 q) (fun q => if q < j + 1 then f1 q else f0 q) j (by
  intro q _
  by_cases h : q = j
  ·subst h; rw [if_pos rfl]
  ·rw [if_neg h]
   by_cases h2 : q < j
   ·rw [if_pos h2, if_pos (by omega)]
   ·rw [if_neg h2, if_neg (by omega)])
 rw [if_pos (Nat.lt_succ_self j)] at h
 exact h
def alike (n : Nat) (gs : List S28) (win : Bool) (m : Nat) : Bool := gs.all fun g => (tableOf n g.f1).getD m false == win
theorem alike_succ (n : Nat) (gs : List S28) (win : Bool) (k m : Nat) (h : k < gs.length) : alike n (gs.take (k + 1)) win m = (alike n (gs.take k) win m && ((tableOf n (gs.getD k z28).f1).getD m false == win)) := by
 unfold alike
 rw [List.take_succ_eq_append_getElem h, List.all_append]
 simp [List.getD_eq_getElem?_getD, h]
theorem alike_sure (n : Nat) (gs : List S28) (win : Bool) (m : Nat) : alike n gs win m = sureB (votesL n gs) win m := by
 unfold alike sureB votesL
 rw [List.any_map, List.not_any_eq_all_not]
 congr 1
 funext g
 show ((tableOf n g.f1).getD m false == win) = !((tableOf n g.f1).getD m false != win)
 cases (tableOf n g.f1).getD m false <;> cases win <;> rfl
theorem sure_srt (n : Nat) (l : List S86) (win : Bool) : srtP befB (partS (alike n (solsG n l) win) (2 ^ n)) = sureS n l win := by
 rw [show alike n (solsG n l) win = sureB (votesL n (solsG n l)) win from funext (alike_sure n _ win)]
 exact srtP_sort Cmp.L _
set_option maxRecDepth 100000 in
set_option maxHeartbeats 4000000 in
theorem pzSure_none (a0 : Int) (l : List S86) (hl8 : l.length ≤ 2 ^ 40) (win : Bool) (h : puzzB a0 l = true → solsG a0.toNat l = []) (A : Option Addr) (c : Nat) (w : World) (hr : Kd.C k86 w A l.length l) (hc : l.length ≤ c) :
  Calls Tryz.prog 67 #[.agg #[.int .i64 a0, .slice A l.length c], .bool win] w fun e w' => ∃ v, e = .returned (.tuple #[v, .bool false]) ∧ Kd.R (Kd.slice 3 (Kd.int .i64)) 36 w' w.heap.size (fun _ => True) v [] ∧ Below w.heap.size w w' := by
 have hu41 := Tryz.underlying41
 have hgd := fun W' (hB : Below w.heap.size w W') => spec_pzGood.calls _ a0 A c l (puzzB a0 l) W' (Kd.C_below hr hB) hc (pzGood_f a0 l (by omega) (l.length + 2) (by omega))
 have HBW := Aside0.mk ((Below.refl w.heap.size w).alloc (Nat.le_refl _) (.cells #[.int .i64 a0, .slice A l.length c] 41))
 cases hp : puzzB a0 l with
 | false =>
  rw [hp] at hgd
  have HG := Aside0.mk hgd
  clear hgd hp hr h hl8
  generalize l.length = L at *
  go_enter Tryz.func67, Tryz.ntmps67
  go_wp2_with (go_at_call 51; refine (HG.out _ HBW.out).mono ?_; rintro e w1 ⟨rfl, hb⟩; have HB := Aside0.mk hb; clear hb)
  go_ret2
  exact ⟨_, rfl, Kd.R_nil _ _ _ _ _, Below.trans HBW.out (HB.out.mono HBW.out.size)⟩
 | true =>
  have hh := h hp
  rw [hp] at hgd
  simp only [puzzB, Bool.and_eq_true, decide_eq_true_eq] at hp
  have hi := inI_of hp.1
  obtain ⟨n, rfl⟩ := Int.eq_ofNat_of_zero_le (show 0 ≤ a0 by omega)
  rw [Int.toNat_natCast] at hh
  have hal := fun W' (hB : Below w.heap.size w W') => spec_pzAll.calls (n : Int) A c l [] W' (Kd.C_below hr hB) hc (by rw [pzAll_f n l hp.1 hp.2.2 (by omega), hh])
  have HG := Aside0.mk hgd
  have HAL := Aside0.mk hal
  have HBK := Aside0.mk (heap1_0 w (.cells #[.int .i64 (n : Int), .slice A l.length c] 41))
  clear hgd hp hr h hl8 hal hh
  generalize l.length = L at *
  go_enter Tryz.func67, Tryz.ntmps67
  go_wp2_with (first | (go_at_call 51; refine (HG.out _ HBW.out).mono ?_; rintro e w1 ⟨rfl, hb⟩; have HB := Aside0.mk (Below.trans HBW.out (hb.mono HBW.out.size)); have hy := blk_below HBK.out hb; have hy0 : w1.cell? ⟨w.heap.size, 0, none⟩ = some (.int .i64 (n : Int)) := (blk_cell hy 0).trans rfl; have hy1 : w1.cell? ⟨w.heap.size, 1, none⟩ = some (.slice A L c) := (blk_cell hy 1).trans rfl; clear hb hy) | (go_at_call 52; refine (HAL.out _ HB.out).mono ?_; rintro e w2 ⟨v2, rfl, ho, hb2⟩; obtain ⟨A2, c2, e2⟩ := Kd.V_slice ho; subst e2; have HB2 := Aside0.mk hb2; clear ho hb2))
  go_ret2
  exact ⟨_, rfl, Kd.R_nil _ _ _ _ _, Below.trans HB.out (HB2.out.mono HB.out.size)⟩
set_option maxRecDepth 100000 in
set_option maxHeartbeats 8000000 in
theorem pzSure_some (n : Nat) (hn1 : 1 ≤ n) (hn : n ≤ 4) (l : List S86) (win : Bool) (hp : puzzB (n : Int) l = true) (h0 : 0 < (solsG n l).length) (A : Option Addr) (c : Nat) (w : World) (hr : Kd.C k86 w A l.length l) (hc : l.length ≤ c) :
  Calls Tryz.prog 67 #[.agg #[.int .i64 (n : Int), .slice A l.length c], .bool win] w fun e w' => ∃ v, e = .returned (.tuple #[v, .bool true]) ∧ Kd.R (Kd.slice 3 (Kd.int .i64)) 36 w' w.heap.size (fun _ => True) v (sureS n l win) ∧ Below w.heap.size w w' := by
 have hu41 := Tryz.underlying41
 have hu28 := Tryz.underlying28
 have hp2 := hp
 simp only [puzzB, Bool.and_eq_true, decide_eq_true_eq] at hp2
 have hgd := fun W' (hB : Below w.heap.size w W') => spec_pzGood.calls _ (n : Int) A c l true W' (Kd.C_below hr hB) hc (hp ▸ pzGood_f (n : Int) l (by omega) (l.length + 2) (by omega))
 have hal := fun W' (hB : Below w.heap.size w W') => spec_pzAll.calls (n : Int) A c l (solsG n l) W' (Kd.C_below hr hB) hc (pzAll_f n l hp2.1 hp2.2.2 (by omega))
 have HBW := Aside0.mk ((Below.refl w.heap.size w).alloc (Nat.le_refl _) (.cells #[.int .i64 (n : Int), .slice A l.length c] 41))
 have HBK := Aside0.mk (heap1_0 w (.cells #[.int .i64 (n : Int), .slice A l.length c] 41))
 have hok := sols_ok n hn hn1 l
 have hlen := sols_len n hn l
 have HSR := Aside0.mk (sure_srt n l win)
 have HG := Aside0.mk hgd
 have HAL := Aside0.mk hal
 have HOK := Aside0.mk hok
 clear hgd hp hr hal hp2 hok hc
 generalize sureS n l win = res at *
 generalize solsG n l = gs at *
 generalize l.length = L at *
 have h4 : wrap64 (2 ^ n) = ((2 ^ n : Nat) : Int) := wrap_pow (by omega) rfl
 have h4m : wrap64 (2 ^ min n 64) = ((2 ^ n : Nat) : Int) := by rw [show min n 64 = n by omega]; exact h4
 have h16 : 2 ^ n ≤ 16 := Nat.le_trans (Nat.pow_le_pow_right (by decide) hn) (by decide)
 have HTL := Aside0.mk (fun g : S28 => show (tableOf n g.f1).length = 2 ^ n by simp [tableOf])
 obtain ⟨N, hN⟩ : ∃ N, N = 2 ^ n := ⟨_, rfl⟩
 have HN := Aside0.mk hN
 have hN0 := Nat.two_pow_pos n
 rw [← hN] at h4 h4m h16 hN0 HTL HSR
 have kmk := print_make_of (P := Tryz.prog) 66 4 (.bool false) 1 Tryz.underlying66 infoBo rfl (by decide) N (by omega)
 clear hN
 obtain ⟨M, hM⟩ : ∃ M, M = gs.length := ⟨_, rfl⟩
 have HM := Aside0.mk hM
 rw [← hM] at h0 hlen
 have hmz : ((M : Int) == 0) = false := beq_eq_false_iff_ne.mpr (by omega)
 clear hM
 go_enter Tryz.func67, Tryz.ntmps67
 go_wp2_with (first | (go_at_call 51; refine (HG.out _ HBW.out).mono ?_; rintro e w1 ⟨rfl, hb⟩; have HB := Aside0.mk (Below.trans HBW.out (hb.mono HBW.out.size)); have hy := blk_below HBK.out hb; have HY := Aside0.mk hy; have hy0 : w1.cell? ⟨w.heap.size, 0, none⟩ = some (.int .i64 (n : Int)) := (blk_cell hy 0).trans rfl; have hy1 : w1.cell? ⟨w.heap.size, 1, none⟩ = some (.slice A L c) := (blk_cell hy 1).trans rfl; clear hb hy) | (go_at_call 52; refine (HAL.out _ HB.out).mono ?_; rintro e w2 ⟨v2, rfl, ho, hb2⟩; obtain ⟨A2, c2, e2⟩ := Kd.V_slice ho; subst e2; obtain ⟨_, _, hC2⟩ := Kd.V_reads' ho; rw [← HM.out] at hC2 ⊢; have HC2 := Aside0.mk hC2; have HB2 := Aside0.mk (Below.trans HB.out (hb2.mono HB.out.size)); have hz0 : w2.cell? ⟨w.heap.size, 0, none⟩ = some (.int .i64 (n : Int)) := (blk_cell (blk_below HY.out hb2) 0).trans rfl; clear ho hb2 hC2))
 clear kmk h4 h4m
 go_loopg [8, 33] N (fun gg _ s33 wr => ∃ kk : Nat, kk ≤ N ∧ N - kk ≤ gg ∧ s33 = .int .i64 kk ∧ Aside0 (Below w2.heap.size w2 wr) ∧ Aside0 (WRow w2.heap.size (rowF N (fun m => decide (m < kk))) wr))
 case atStart =>
  refine ⟨0, Nat.zero_le _, by omega, rfl, ⟨(Below.refl _ _).alloc (Nat.le_refl _) _⟩, ⟨?_⟩⟩
  unfold WRow
  have e : rowF N (fun m => decide (m < 0)) = List.replicate N false := by
   unfold rowF
   apply List.ext_getElem <;> simp
  rw [e, List.map_replicate, ← madeCells_one]
  exact heap1_0 _ _
 case round =>
  obtain ⟨kk, hkk, hg, rfl, BW, HW⟩ := hrel
  by_cases hlt : kk < N
  ·have hltz : (kk : Int) < (N : Int) := by omega
   have h0z : (0 : Int) ≤ (kk : Int) := by omega
   have hcb := HW.out.cell kk (by rw [rowF_len]; exact hlt)
   have hfb := blk_frozen HW.out kk
   go_wp2
   go_roundg (N - (kk + 1))
   case measure => omega
   case rel =>
    refine ⟨kk + 1, by omega, by omega, by go_num, ⟨BW.out.setCell (Nat.le_refl _) _⟩, ⟨?_⟩⟩
    rw [← rowF_set N (fun m => decide (m < kk)) (fun m => decide (m < kk + 1)) kk (by intro m _; by_cases h : m = kk <;> simp [h] <;> omega)]
    simpa using WRow.set HW.out kk true
  ·have hltz : ¬ (kk : Int) < (N : Int) := by omega
   have e : kk = N := by omega
   subst e
   go_wp2
   have hst : rowF kk (fun m => decide (m < kk)) = rowF kk (alike n (gs.take 0) win) := by
    apply List.ext_getElem (by simp [rowF])
    intro i h1 h2
    have hi : i < kk := by simpa [rowF] using h1
    simp [rowF, alike, hi]
   go_loopg [10, 11, 12, 42, 49] M (fun gg _ _ _ s42 _ wr => ∃ m : Nat, m ≤ M ∧ M - m ≤ gg ∧ s42 = .int .i64 m ∧ Aside0 (Below w2.heap.size w2 wr) ∧ Aside0 (WRow w2.heap.size (rowF kk (alike n (gs.take m) win)) wr))
   case atStart => exact ⟨0, Nat.zero_le _, by omega, rfl, BW, ⟨hst ▸ HW.out⟩⟩
   case round =>
    clear BW HW hst hltz hlt
    obtain ⟨m, hmm, hg2, rfl, BW, HW⟩ := hrel
    by_cases hlt : m < M
    ·have hltz : (m : Int) < (M : Int) := by omega
     have h0z : (0 : Int) ≤ (m : Int) := by omega
     obtain ⟨ad, A1, c1, e, hcell0, hcell1, hl2, hC2⟩ := at_T28 (Kd.C_below HC2.out BW.out) (m : Int) h0z hltz
     subst e
     rw [Int.toNat_natCast] at hcell0 hcell1
     have hy0' : rd_T28 gs (m : Int) = gs.getD m z28 := by simp [rd_T28]
     have hmem : gs.getD m z28 ∈ gs := by have := HM.out; simp [List.getD_eq_getElem?_getD, show m < gs.length by omega]
     rw [hy0'] at hcell0 hcell1 hl2 hC2
     obtain ⟨hx0, hxb⟩ := HOK.out _ hmem
     have hal := fun q => alike_succ n gs win m q (by have := HM.out; omega)
     clear hy0' hmem
     have hxl := HTL.out (gs.getD m z28)
     generalize gs.getD m z28 = x at *
     rw [hx0] at hcell0
     have hvo := fun W' (hB : Below wr.heap.size wr W') => spec_gmAll.calls (n : Int) A1 c1 x.f1 (tableOf n x.f1) W' (Kd.C_below hC2 hB) hl2 (by simp [spec_gmAll.f, spec_gmWins.f, hxb])
     have HVO := Aside0.mk hvo
     generalize tableOf n x.f1 = tb at *
     have HAL2 := Aside0.mk hal
     have HXL := Aside0.mk hxl
     have HSZ := Aside0.mk BW.out.size
     clear hvo hal hxl hC2 hl2 hxb hx0
     go_wp2_with (go_at_call 73; refine (HVO.out _ ?sB).mono ?_; (case sB => exact (by (with_reducible repeat (first | exact Below.refl _ _ | apply below_alloc | apply pw_below_drewN | apply below_drew)))); rintro e w3 ⟨v3, rfl, ho3, hb3⟩; obtain ⟨g, cap, e3, hg1, hg2, _⟩ := Kd.R_form ho3 (by have := HXL.out; omega); rw [HXL.out] at e3; subst e3; have HO3 := Aside0.mk ho3; have HB3 := Aside0.mk hb3; clear ho3 hb3)
     have hG : ∀ j, j < kk → w3.cell? ⟨g, j, none⟩ = some (.bool (tb.getD j false)) := by
      intro j hj
      obtain ⟨ad', e', hcell⟩ := Kd.at_bool (Kd.R_reads' HO3.out).2.2 (j : Int) (by omega) (by have := HXL.out; omega)
      cases e'
      rw [show rdOf false tb (j : Int) = tb.getD j false by simp [rdOf]] at hcell
      exact (congrArg w3.cell? (show (⟨g, 0, none⟩ : Addr).add (j : Int).toNat = ⟨g, j, none⟩ by rw [Int.toNat_natCast]; cases j <;> simp [Addr.add])).symm.trans hcell
     have hgne : g ≠ w2.heap.size := by
      have h1 := blk_lt HW.out
      have h2 := hg1
      simp at h2
      omega
     have hB3 : Below wr.heap.size wr w3 := Below.trans (by (with_reducible repeat (first | exact Below.refl _ _ | apply below_alloc | apply pw_below_drewN | apply below_drew))) (HB3.out.mono (by simp))
     have BW3 := Aside0.mk (Below.trans BW.out (hB3.mono BW.out.size))
     have HW3 := Aside0.mk (blk_below HW.out hB3)
     have HG3 := Aside0.mk hG
     generalize alike n (gs.take m) win = f0 at *
     obtain ⟨f1, hF1⟩ : ∃ f1, f1 = alike n (gs.take (m + 1)) win := ⟨_, rfl⟩
     have HF1 := Aside0.mk hF1
     rw [← hF1] at HAL2
     clear hF1
     clear hG hB3 hg1 hg2 HVO hcell0 hcell1
     go_loopg [11, 12, 49] kk (fun gg _ _ s49 wq => ∃ j : Nat, j ≤ kk ∧ kk - j ≤ gg ∧ s49 = .int .i64 j ∧ Aside0 (Below w2.heap.size w2 wq) ∧ Aside0 (WRow w2.heap.size (rowF kk (fun q => if q < j then f1 q else f0 q)) wq) ∧ Aside0 (∀ j, j < kk → wq.cell? ⟨g, j, none⟩ = some (.bool (tb.getD j false))))
     case atStart => exact ⟨0, Nat.zero_le _, by omega, rfl, BW3, ⟨HW3.out⟩, HG3⟩
     case round =>
      clear BW HW BW3 HW3 HG3 HO3 HB3
      obtain ⟨j, hj, hg2, rfl, BW, HW, HG⟩ := hrel
      by_cases hjl : j < kk
      ·have hjz : (j : Int) < (kk : Int) := by omega
       have hjz0 : (0 : Int) ≤ (j : Int) := by omega
       have hcell := HG.out j hjl
       have hcb := HW.out.cell j (by rw [rowF_len]; exact hjl)
       rw [rowF_get _ _ _ hjl, if_neg (Nat.lt_irrefl j)] at hcb
       have hfb := blk_frozen HW.out j
       have hfj := HAL2.out j
       have HRW := Aside0.mk (mix_set kk f0 f1 j)
       have HFJ := Aside0.mk hfj
       clear hfj
       generalize rowF kk (fun q => if q < j then f1 q else f0 q) = row at *
       generalize f0 j = cur at *
       generalize tb.getD j false = is at *
       cases cur with
       | false =>
        go_wp2
        go_roundg (kk - (j + 1))
        case measure => omega
        case rel =>
         refine ⟨j + 1, by omega, by omega, by go_num, ⟨BW.out.setCell (Nat.le_refl _) _⟩, ⟨?_⟩, ⟨fun i hi => (World.cell?_setCell_far _ _ _ _ (by simpa using Ne.symm hgne)).trans (HG.out i hi)⟩⟩
         rw [← HRW.out, HFJ.out]
         exact WRow.set HW.out j _
       | true =>
        go_wp2
        go_roundg (kk - (j + 1))
        case measure => omega
        case rel =>
         refine ⟨j + 1, by omega, by omega, by go_num, ⟨BW.out.setCell (Nat.le_refl _) _⟩, ⟨?_⟩, ⟨fun i hi => (World.cell?_setCell_far _ _ _ _ (by simpa using Ne.symm hgne)).trans (HG.out i hi)⟩⟩
         rw [← HRW.out, HFJ.out]
         exact WRow.set HW.out j _
      ·have hjz : ¬ (j : Int) < (kk : Int) := by omega
       have e : j = kk := by omega
       subst e
       go_wp2
       go_roundg (M - (m + 1))
       case measure => omega
       case rel =>
        refine ⟨m + 1, by omega, by omega, by go_num, BW, ⟨?_⟩⟩
        have h1 := HW.out
        have e : rowF j (fun q => if q < j then f1 q else f0 q) = rowF j (alike n (gs.take (m + 1)) win) := by
         rw [← HF1.out]
         apply List.ext_getElem (by simp [rowF])
         intro i h1 h2
         have hi : i < j := by simpa [rowF] using h1
         simp [rowF, hi]
        rw [← e]
        exact h1
    ·have hltz : ¬ (m : Int) < (M : Int) := by omega
     have e : m = M := by omega
     subst e
     have htk : gs.take m = gs := List.take_of_length_le (Nat.le_of_eq HM.out.symm)
     rw [htk] at HW
     go_wp2
     have BWr := Aside0.mk BW.out
     have HWr := Aside0.mk HW.out
     generalize hW4 : wr = w4 at *
     clear hW4
     clear BW HW htk hlt
     generalize alike n gs win = al at *
     go_loopg [13, 14, 15, 70] kk (fun gg s13 _ _ s70 wr => ∃ q : Nat, q ≤ kk ∧ kk - q ≤ gg ∧ s70 = .int .i64 q ∧ Aside0 (Below w4.heap.size w4 wr) ∧ Aside0 (Kd.R (Kd.slice 3 (Kd.int .i64)) 36 wr w4.heap.size (fun _ => True) s13 (partS al q)))
     case atStart => exact ⟨0, Nat.zero_le _, by omega, rfl, ⟨Below.refl _ _⟩, ⟨Kd.R_nil _ _ _ _ _⟩⟩
     case round =>
      obtain ⟨q, hq, hg2, rfl, BW, HO⟩ := hrel
      by_cases hlt : q < kk
      ·have hltz2 : (q : Int) < (kk : Int) := by omega
       have h0z : (0 : Int) ≤ (q : Int) := by omega
       have hcb := (show WRow w2.heap.size (rowF kk al) wr from blk_below HWr.out BW.out).cell q (by rw [rowF_len]; exact hlt)
       rw [rowF_get _ _ _ hlt] at hcb
       cases hb : al q with
       | false =>
        rw [hb] at hcb
        have HB := Aside0.mk hb
        clear hb
        go_wp2
        go_roundg (kk - (q + 1))
        case measure => omega
        case rel => exact ⟨q + 1, by omega, by omega, by go_num, BW, ⟨by rw [partS_no HB.out]; exact HO.out⟩⟩
       | true =>
        rw [hb] at hcb
        have HB := Aside0.mk hb
        have hpl := partS_len al q
        have hvl := fun w => spec_voList.calls (q : Int) (setI q) w (by rw [spec_voList.f, if_pos ⟨by omega, by omega⟩, Int.toNat_natCast])
        have HVL := Aside0.mk hvl
        clear hb hvl
        go_wp2_with (first | (go_at_call 96; refine (HVL.out _).mono ?_; rintro e w5 ⟨v2, rfl, ho2, hb2⟩; obtain ⟨A2, c2, rfl⟩ := Kd.R_slice ho2; have HO2 := Aside0.mk ho2; have HB2 := Aside0.mk hb2; clear ho2 hb2) | ((with_reducible refine gate_builtin (b := .append) (xs := #[.tmp 76, .tmp 79]) rfl ?_); at_builtin; refine Kd.R_append (Kd.slice 3 (Kd.int .i64)) (w0 := w4) w4.heap.size rfl (.tmp 76) (.tmp 79) 22 36 (.slice none 0 0) 24 rfl Tryz.underlying22 infoS rfl (by decide) (by omega) u13 (partS al q) (setI q) [.slice A2 (setI q).length c2] (fun _ => True) (fun k_ => some k_ = (.slice A2 (setI q).length c2 : Value).ownBlock) rfl rfl ?aP ?aQ (fun _ _ => trivial) ?aO ?aB ?aS (by omega) ?_; (case aP => exact Kd.M_row (Kd.R_tight rfl (Kd.R_lower HO2.out BW.out.size))); (case aQ => exact fun k hk => ⟨trivial, fun e => by have h1 := Kd.R_base HO2.out k hk.symm; have h2 := Kd.R_lt HO.out k e.symm; omega⟩); (case aO => exact Kd.R_below HO.out HB2.out); (case aB => exact Below.trans BW.out (HB2.out.mono BW.out.size)); (case aS => exact Nat.le_trans BW.out.size HB2.out.size); intro v3 w6 ho hb hg hat; have HO3 := Aside0.mk ho; have HB3 := Aside0.mk hb; clear ho hb hg hat))
        go_roundg (kk - (q + 1))
        case measure => omega
        case rel => exact ⟨q + 1, by omega, by omega, by go_num, HB3, ⟨by rw [partS_yes HB.out]; exact HO3.out⟩⟩
      ·have hltz2 : ¬ (q : Int) < (kk : Int) := by omega
       have e : q = kk := by omega
       subst e
       have hpl := partS_len al q
       have ho := HO.out
       obtain ⟨A3, c3, hs3⟩ := Kd.R_slice ho
       subst hs3
       have hvs := voSorted_any w4.heap.size (partS al q) (by omega) (fun x hx => by
        obtain ⟨m, _, rfl⟩ := List.mem_map.1 hx
        rw [setI, List.length_map, setN]
        exact Nat.le_trans (List.length_filter_le _ _) (by simp)) A3 c3 _ BW.out.size ho
       have HVS := Aside0.mk hvs
       clear hvs ho
       go_wp2_with (go_at_call 97; refine HVS.out.mono ?_; rintro e w5 ⟨v5, rfl, ho5, hb5⟩; have HO5 := Aside0.mk ho5; have HB5 := Aside0.mk hb5; clear ho5 hb5)
       go_ret2
       have hs1 := Nat.le_trans HB2.out.size BWr.out.size
       refine ⟨_, rfl, ?_, Below.trans HB2.out (Below.trans (BWr.out.mono HB2.out.size) (Below.trans (BW.out.mono hs1) (HB5.out.mono (Nat.le_trans hs1 BW.out.size))))⟩
       rw [← HSR.out]
       exact Kd.R_lower HO5.out hs1
def spec_pzSure.f (a0 : Int) (l : List S86) (win : Bool) : Option (List (List Int) × Bool) := if l.length ≤ 2 ^ 40 then some (sureR a0 l win) else none
theorem spec_pzSure.calls (a0 : Int) (A : Option Addr) (c : Nat) (l : List S86) (win : Bool) (r1 : List (List Int)) (r2 : Bool) (w : World) (hr : Kd.C k86 w A l.length l) (hc : l.length ≤ c) (h : spec_pzSure.f a0 l win = some (r1, r2)) :
  Calls Tryz.prog 67 #[.agg #[.int .i64 a0, .slice A l.length c], .bool win] w fun e w' => ∃ v0_ : Value, e = .returned (.tuple #[v0_, .bool r2]) ∧ Kd.V (Kd.slice 3 (Kd.int .i64)) 36 w' w.heap.size (fun k_ => (w.heap.size ≤ k_)) v0_ r1 ∧ Below w.heap.size w w' := by
 rw [spec_pzSure.f] at h
 split at h
 ·rename_i h8
  have h := Option.some.inj h
  rw [sureR] at h
  split at h
  ·rename_i hh
   obtain ⟨n, rfl, h1, h4⟩ := puzz_nat hh.1
   injection h with e1 e2
   subst e1 e2
   rw [Int.toNat_natCast] at hh ⊢
   refine (pzSure_some n h1 h4 l win hh.1 (List.length_pos_iff.2 hh.2) A c w hr hc).mono ?_
   rintro e w' ⟨v, rfl, hR, hB⟩
   exact ⟨v, rfl, Kd.R_V (Kd.R_mono (Kd.R_bound hR) (fun k hk => hk.2.1)), hB⟩
  ·rename_i hh
   injection h with e1 e2
   subst e1 e2
   refine (pzSure_none a0 l h8 win (fun hp => Classical.byContradiction fun hn => hh ⟨hp, hn⟩) A c w hr hc).mono ?_
   rintro e w' ⟨v, rfl, hR, hB⟩
   exact ⟨v, rfl, Kd.R_V (Kd.R_mono (Kd.R_bound hR) (fun k hk => hk.2.1)), hB⟩
 ·cases h
end Go.Proofs.YtnncjnjfdhbddaaGreat.Z
namespace Go.Proofs.YtnncjnjfdhbddaaGreat.Z
open Go.RowKit Go.Proofs.YtnncjnjfdhbddaaGreatW.PrintWords Go.Proofs.YtnncjnjfdhbddaaGreatW.PrintLast Go.Proofs.YtnncjnjfdhbddaaGreatW.PrintMore
attribute [local go_sem] max2_int min2_int max_two min_two max_three min_three max_four min_four
set_option linter.unusedVariables false
set_option linter.unusedSimpArgs false
def spec_SureWins.f (a0_0 : Int) (l0_1 : List (S86)) : Option ((List (List Int)) × Bool) := (spec_pzSure.f a0_0 l0_1 true).bind fun bt526 => (some (bt526.1, bt526.2))
set_option maxHeartbeats 8000000 in
set_option maxRecDepth 100000 in
theorem spec_SureWins.calls (a0_0 : Int) (A0_1 : Option Addr) (c0_1 : Nat) (l0_1 : List (S86)) (r1 : List (List Int)) (r2 : Bool) (w : World) (hr0_1 : Kd.C k86 w A0_1 l0_1.length l0_1) (hc0_1 : l0_1.length ≤ c0_1) (h : spec_SureWins.f a0_0 l0_1 = some (r1, r2)) :
  Calls Tryz.prog 41 #[.agg #[.int .i64 a0_0, .slice A0_1 l0_1.length c0_1]] w fun e w' => ∃ v0_ : Value, e = .returned (.tuple #[v0_, .bool r2]) ∧ Kd.V (Kd.slice 3 (Kd.int .i64)) 36 w' w.heap.size (fun k_ => (w.heap.size ≤ k_)) v0_ r1 ∧ Below w.heap.size w w' := by
 have hu41 := Tryz.underlying41
 have HR0_1 := Aside0.mk hr0_1
 have HC0_1 := Aside0.mk hc0_1
 clear hr0_1 hc0_1
 have HB := Aside0.mk (Below.refl w.heap.size w)
 have H : ((spec_pzSure.f a0_0 l0_1 true).bind fun bt526 => (some (bt526.1, bt526.2))) = some (r1, r2) := h
 clear h
 replace H := Option.bind_eq_some_iff.mp H
 obtain ⟨⟨t526, t529⟩, A20, H⟩ := H
 replace H : (some (t526, t529)) = some (r1, r2) := H
 have A2 := Aside0.mk A20
 clear A20
 simp only [Option.some.injEq, Prod.mk.injEq] at H
 obtain ⟨rfl, rfl⟩ := H
 go_enter Tryz.func41, Tryz.ntmps41
 go_wp2_with (first | ((with_reducible refine gate_dst (N := 1) rfl ?_); refine box_event ?hg (N := 1) ?hd (cs := #[.int .i64 a0_0, .slice A0_1 l0_1.length c0_1]) (t := 41) ?hr ?_; (case hd => rfl); (case hg => rfl); (case hr => first | (go_simp; done) | (go_simp; rfl)); intro gb525 hg w3 hbox hb; have n0_ := Aside0.mk (below_step (by repeat (first | (with_reducible first | exact HB.out | apply below_alloc | apply pw_below_drewN | apply below_drew1) | exact HB.out)) hb); have n1_ := Aside0.mk (hbox); have n2_ := Aside0.mk ((by rw [hg]; exact (below_size (by repeat (first | (with_reducible first | exact HB.out | apply below_alloc | apply pw_below_drewN | apply below_drew1) | exact HB.out))) : w.heap.size ≤ gb525)); have n3_ := Aside0.mk ((by rw [hg]; exact (below_size (by repeat (first | (with_reducible first | exact HB.out | apply below_alloc | apply pw_below_drewN | apply below_drew1) | exact HB.out))) : w.heap.size ≤ gb525)); clear HB; have HB := n0_; have BK525 := n1_; have GW525 := n2_; have GE525 := n3_; clear n0_ n1_ n2_ n3_; clear hb hbox hg; have hcz4_0 : w3.cell? ⟨gb525, 0, none⟩ = some (.int .i64 a0_0) := (blk_cell BK525.out 0).trans rfl; have hcz4_1 : w3.cell? ⟨gb525, 1, none⟩ = some (.slice A0_1 l0_1.length c0_1) := (blk_cell BK525.out 1).trans rfl; have hfz4_0 := blk_frozen BK525.out 0; have hfz4_1 := blk_frozen BK525.out 1) | ((with_reducible refine gate_callee (f := 67) rfl ?_); refine goesL_ (some 5) rfl rfl Tryz.func67 (by kernel_rfl) rfl #[.agg #[.int .i64 a0_0, .slice A0_1 l0_1.length c0_1], .bool true] rfl (by (try simp only [List.map_toArray, List.map_cons, List.map_nil]); first | done | rfl | (simp only [List.length_drop, List.length_take]; rfl)) ?_; (with_reducible refine (spec_pzSure.calls a0_0 _ _ l0_1 true t526 t529 _ ?side1 ?side2 A2.out).mono ?_); (case side1 => repeat (first | exact (Kd.C_below HR0_1.out HB.out) | (with_reducible refine Kd.C_alloc ?_ _) | (with_reducible refine Kd.C_drewN ?_ _) | (with_reducible refine Kd.C_drew ?_))); (case side2 => exact HC0_1.out); rintro e w5 ⟨v527, rfl, ho0, hb⟩; refine ⟨_, rfl, ?_⟩; have n0_ := Aside0.mk (Kd.V_lower (Kd.V_mono (ok' := fun k_ => (w.heap.size ≤ k_) ∧ k_ ≠ gb525) ho0 (fun k_ hk_ => ⟨(Nat.le_trans (below_size (by repeat (first | (with_reducible first | exact HB.out | apply below_alloc | apply pw_below_drewN | apply below_drew1 | refine below_set ?_ GE525.out) | exact HB.out))) hk_), (Kd.freshB (g := gb525) (o := .cells #[.int .i64 a0_0, .slice A0_1 l0_1.length c0_1] 41 (0, 0)) (by (with_reducible repeat (first | refine blk_drewN ?_ _ | refine blk_drew ?_ | refine blk_alloc ?_ _)); exact BK525.out) k_ hk_)⟩)) (below_size (by repeat (first | (with_reducible first | exact HB.out | apply below_alloc | apply pw_below_drewN | apply below_drew1 | refine below_set ?_ GE525.out) | exact HB.out)))); have n1_ := Aside0.mk (blk_below (g := gb525) (o := .cells #[.int .i64 a0_0, .slice A0_1 l0_1.length c0_1] 41 (0, 0)) (by (with_reducible repeat (first | refine blk_drewN ?_ _ | refine blk_drew ?_ | refine blk_alloc ?_ _)); exact BK525.out) hb); have n2_ := Aside0.mk (below_step (by repeat (first | (with_reducible first | exact HB.out | apply below_alloc | apply pw_below_drewN | apply below_drew1 | refine below_set ?_ GE525.out) | exact HB.out)) hb); clear BK525; clear HB; have HO528 := n0_; have BK525 := n1_; have HB := n2_; clear n0_ n1_ n2_; (try clear hb); (try clear hb2); (try clear hk); (try clear hi); (try clear ho0)))
 go_ret2
 exact ⟨_, by first | rfl | (simp [errW_none, errW_some] <;> rfl) | (simp [*, errW_none, errW_some] <;> rfl), by (with_reducible repeat (first | apply Kd.V_alloc | apply Kd.V_drewN | apply Kd.V_drew)); exact Kd.V_mono HO528.out (fun _ hk => hk.1), by repeat (first | (with_reducible first | exact HB.out | apply below_alloc | apply pw_below_drewN | apply below_drew1 | refine below_set ?_ GE525.out) | exact HB.out)⟩
end Go.Proofs.YtnncjnjfdhbddaaGreat.Z
namespace Go.Proofs.YtnncjnjfdhbddaaGreat.Z
open Go.RowKit Go.Proofs.YtnncjnjfdhbddaaGreatW.PrintWords Go.Proofs.YtnncjnjfdhbddaaGreatW.PrintLast Go.Proofs.YtnncjnjfdhbddaaGreatW.PrintMore
attribute [local go_sem] max2_int min2_int max_two min_two max_three min_three max_four min_four
set_option linter.unusedVariables false
set_option linter.unusedSimpArgs false
def impl_SureWins.f (a0_0 : Int) (l0_1 : List (S86)) : Option ((List (List Int)) × Bool) := (impl_sure.f a0_0 l0_1 true).bind fun bt531 => (some (bt531.1, bt531.2))
set_option maxHeartbeats 8000000 in
set_option maxRecDepth 100000 in
theorem impl_SureWins.calls (a0_0 : Int) (A0_1 : Option Addr) (c0_1 : Nat) (l0_1 : List (S86)) (r1 : List (List Int)) (r2 : Bool) (w : World) (hr0_1 : Kd.C k86 w A0_1 l0_1.length l0_1) (hc0_1 : l0_1.length ≤ c0_1) (h : impl_SureWins.f a0_0 l0_1 = some (r1, r2)) :
  Calls Tryz.prog 42 #[.agg #[.int .i64 a0_0, .slice A0_1 l0_1.length c0_1]] w fun e w' => ∃ v0_ : Value, e = .returned (.tuple #[v0_, .bool r2]) ∧ Kd.S (Kd.slice 3 (Kd.int .i64)) 36 w' w.heap.size (fun _ => True) v0_ r1 ∧ Below w.heap.size w w' := by
 have hu41 := Tryz.underlying41
 have HR0_1 := Aside0.mk hr0_1
 have HC0_1 := Aside0.mk hc0_1
 clear hr0_1 hc0_1
 have HB := Aside0.mk (Below.refl w.heap.size w)
 have H : ((impl_sure.f a0_0 l0_1 true).bind fun bt531 => (some (bt531.1, bt531.2))) = some (r1, r2) := h
 clear h
 replace H := Option.bind_eq_some_iff.mp H
 obtain ⟨⟨t531, t534⟩, A20, H⟩ := H
 replace H : (some (t531, t534)) = some (r1, r2) := H
 have A2 := Aside0.mk A20
 clear A20
 simp only [Option.some.injEq, Prod.mk.injEq] at H
 obtain ⟨rfl, rfl⟩ := H
 go_enter Tryz.func42, Tryz.ntmps42
 go_wp2_with (first | ((with_reducible refine gate_dst (N := 1) rfl ?_); refine box_event ?hg (N := 1) ?hd (cs := #[.int .i64 a0_0, .slice A0_1 l0_1.length c0_1]) (t := 41) ?hr ?_; (case hd => rfl); (case hg => rfl); (case hr => first | (go_simp; done) | (go_simp; rfl)); intro gb530 hg w3 hbox hb; have n0_ := Aside0.mk (below_step (by repeat (first | (with_reducible first | exact HB.out | apply below_alloc | apply pw_below_drewN | apply below_drew1) | exact HB.out)) hb); have n1_ := Aside0.mk (hbox); have n2_ := Aside0.mk ((by rw [hg]; exact (below_size (by repeat (first | (with_reducible first | exact HB.out | apply below_alloc | apply pw_below_drewN | apply below_drew1) | exact HB.out))) : w.heap.size ≤ gb530)); have n3_ := Aside0.mk ((by rw [hg]; exact (below_size (by repeat (first | (with_reducible first | exact HB.out | apply below_alloc | apply pw_below_drewN | apply below_drew1) | exact HB.out))) : w.heap.size ≤ gb530)); clear HB; have HB := n0_; have BK530 := n1_; have GW530 := n2_; have GE530 := n3_; clear n0_ n1_ n2_ n3_; clear hb hbox hg; have hcz4_0 : w3.cell? ⟨gb530, 0, none⟩ = some (.int .i64 a0_0) := (blk_cell BK530.out 0).trans rfl; have hcz4_1 : w3.cell? ⟨gb530, 1, none⟩ = some (.slice A0_1 l0_1.length c0_1) := (blk_cell BK530.out 1).trans rfl; have hfz4_0 := blk_frozen BK530.out 0; have hfz4_1 := blk_frozen BK530.out 1) | ((with_reducible refine gate_callee (f := 68) rfl ?_); refine goesL_ (some 5) rfl rfl Tryz.func68 (by kernel_rfl) rfl #[.agg #[.int .i64 a0_0, .slice A0_1 l0_1.length c0_1], .bool true] rfl (by (try simp only [List.map_toArray, List.map_cons, List.map_nil]); first | done | rfl | (simp only [List.length_drop, List.length_take]; rfl)) ?_; (with_reducible refine (impl_sure.calls a0_0 _ _ l0_1 true t531 t534 _ ?side1 ?side2 A2.out).mono ?_); (case side1 => repeat (first | exact (Kd.C_below HR0_1.out HB.out) | (with_reducible refine Kd.C_alloc ?_ _) | (with_reducible refine Kd.C_drewN ?_ _) | (with_reducible refine Kd.C_drew ?_))); (case side2 => exact HC0_1.out); rintro e w5 ⟨v532, rfl, ho0, hb⟩; refine ⟨_, rfl, ?_⟩; have n0_ := Aside0.mk (Kd.S_lower ho0 (below_size (by repeat (first | (with_reducible first | exact HB.out | apply below_alloc | apply pw_below_drewN | apply below_drew1 | refine below_set ?_ GE530.out) | exact HB.out)))); have n1_ := Aside0.mk (blk_below (g := gb530) (o := .cells #[.int .i64 a0_0, .slice A0_1 l0_1.length c0_1] 41 (0, 0)) (by (with_reducible repeat (first | refine blk_drewN ?_ _ | refine blk_drew ?_ | refine blk_alloc ?_ _)); exact BK530.out) hb); have n2_ := Aside0.mk (below_step (by repeat (first | (with_reducible first | exact HB.out | apply below_alloc | apply pw_below_drewN | apply below_drew1 | refine below_set ?_ GE530.out) | exact HB.out)) hb); clear BK530; clear HB; have HO533 := n0_; have BK530 := n1_; have HB := n2_; clear n0_ n1_ n2_; (try clear hb); (try clear hb2); (try clear hk); (try clear hi); (try clear ho0)))
 go_ret2
 exact ⟨_, by first | rfl | (simp [errW_none, errW_some] <;> rfl) | (simp [*, errW_none, errW_some] <;> rfl), by (with_reducible repeat (first | apply Kd.S_alloc | apply Kd.S_drewN | apply Kd.S_drew)); exact HO533.out, by repeat (first | (with_reducible first | exact HB.out | apply below_alloc | apply pw_below_drewN | apply below_drew1 | refine below_set ?_ GE530.out) | exact HB.out)⟩
end Go.Proofs.YtnncjnjfdhbddaaGreat.Z
namespace Go.Proofs.YtnncjnjfdhbddaaGreat.Z
open Go.RowKit Go.Proofs.YtnncjnjfdhbddaaGreatW.PrintWords Go.Proofs.YtnncjnjfdhbddaaGreatW.PrintLast Go.Proofs.YtnncjnjfdhbddaaGreatW.PrintMore
attribute [local go_sem] max2_int min2_int max_two min_two max_three min_three max_four min_four
set_option linter.unusedVariables false
set_option linter.unusedSimpArgs false
def laws_eqIntSS.l0 : Nat → List (List Int) → List (List Int) → Int → Option (Bool)
 | 0, _, _, _ => none
 | k + 1, x0, x1, x5 => if x5 < (x0.length : Int) then (if 0 ≤ x5 then (if x5 < (x1.length : Int) then ((laws_eqIntS.f k (rd_L1 x0 x5) (rd_L1 x1 x5)).bind fun t164 => (if t164 = true then (laws_eqIntSS.l0 k x0 x1 (wrap64 (x5 + 1))) else (some false))) else (none)) else (none)) else (some true)
def laws_eqIntSS.f (k : Nat) (l0 : List (List Int)) (l1 : List (List Int)) : Option (Bool) := if (l0.length : Int) = (l1.length : Int) then (laws_eqIntSS.l0 k l0 l1 0) else (some false)
set_option maxHeartbeats 8000000 in
set_option maxRecDepth 100000 in
theorem laws_eqIntSS.calls (k : Nat) (A0 : Option Addr) (c0 : Nat) (l0 : List (List Int)) (A1 : Option Addr) (c1 : Nat) (l1 : List (List Int)) (r : Bool) (w : World) (hr0 : Kd.C (Kd.slice 3 (Kd.int .i64)) w A0 l0.length l0) (hc0 : l0.length ≤ c0) (hr1 : Kd.C (Kd.slice 3 (Kd.int .i64)) w A1 l1.length l1) (hc1 : l1.length ≤ c1) (h : laws_eqIntSS.f k l0 l1 = some r) :
  Calls Tryz.prog 38 #[.slice A0 l0.length c0, .slice A1 l1.length c1] w fun e w' => e = .returned (.bool r) ∧ Drawn0 w w' := by
 have HR0 := Aside0.mk hr0
 have HC0 := Aside0.mk hc0
 clear hr0 hc0
 have HR1 := Aside0.mk hr1
 have HC1 := Aside0.mk hc1
 clear hr1 hc1
 have H : (if (l0.length : Int) = (l1.length : Int) then (laws_eqIntSS.l0 k l0 l1 0) else (some false)) = some r := h
 clear h
 by_cases c3 : (l0.length : Int) = (l1.length : Int)
 ·rw [if_pos c3] at H
  have c3b0 : ((l0.length : Int) == (l1.length : Int)) = true := beq_iff_eq.mpr c3
  have c3b1 : ((l0.length : Int) != (l1.length : Int)) = false := bne_eq_false_iff_eq.mpr c3
  have c3b2 : (l0.length == l1.length) = true := by first | simpa using c3 | (simp at c3 ⊢; omega)
  clear c3
  have H' := Aside0.mk H
  clear H
  go_enter Tryz.func38, Tryz.ntmps38
  go_wp2
  repeat (go_quiet (fail); try go_wp2)
  go_loopg [5] k (fun kq v5 w' => ∃ (x5_1 : Int), v5 = .int .i64 x5_1 ∧ Aside0 (laws_eqIntSS.l0 kq l0 l1 x5_1 = some r) ∧ Aside0 (kq ≤ k) ∧ Drawn0 w w')
  case atStart => exact ⟨(0), (by first | rfl | (simp; done) | (simp [*]; done)), H', ⟨Nat.le_refl _⟩, by repeat (first | exact Drawn0.refl _ | apply Drawn0.step)⟩
  case round =>
   clear H'
   try clear c1
   try clear p2
   try clear c3
   try clear c3b0
   try clear c3b1
   try clear c3b2
   obtain ⟨x5_1, rfl, HA, HK1, ⟨m1, rfl⟩⟩ := hrel
   cases gk with
   | zero => exact absurd HA.out (by simp [laws_eqIntSS.l0])
   | succ k1 =>
    have H := HA.out
    clear HA
    simp only [laws_eqIntSS.l0] at H
    by_cases c4 : x5_1 < (l0.length : Int)
    ·rw [if_pos c4] at H
     have c4b0 : decide (x5_1 < (l0.length : Int)) = true := decide_eq_true c4
     clear c4
     by_cases c5 : 0 ≤ x5_1
     ·rw [if_pos c5] at H
      have c5b0 : decide (0 ≤ x5_1) = true := decide_eq_true c5
      clear c5
      by_cases c6 : x5_1 < (l1.length : Int)
      ·rw [if_pos c6] at H
       have c6b0 : decide (x5_1 < (l1.length : Int)) = true := decide_eq_true c6
       clear c6
       replace H := Option.bind_eq_some_iff.mp H
       obtain ⟨t164, A70, H⟩ := H
       replace H : (if t164 = true then (laws_eqIntSS.l0 k1 l0 l1 (wrap64 (x5_1 + 1))) else (some false)) = some r := H
       have A7 := Aside0.mk A70
       clear A70
       by_cases c8 : t164 = true
       ·subst c8
        have H1 : (laws_eqIntSS.l0 k1 l0 l1 (wrap64 (x5_1 + 1))) = some r := by rw [if_pos rfl] at H; exact H
        clear H
        have H := H1
        clear H1
        have H' := Aside0.mk H
        clear H
        have p162 : 0 ≤ (x5_1 : Int) := of_decide_eq_true (by first | (with_reducible assumption) | assumption)
        have q162 : x5_1 < (l0.length : Int) := of_decide_eq_true (by first | (with_reducible assumption) | assumption)
        obtain ⟨ad162, A162_0, c162_0, e162, hx162_0, hl162_0, hi162_0⟩ := at_L1 HR0.out x5_1 p162 q162
        cases e162
        have HR162_0 := Aside0.mk hi162_0
        have HC162_0 := Aside0.mk hl162_0
        clear hi162_0 hl162_0
        replace p162 := eq_true p162
        replace q162 := eq_true q162
        have p163 : 0 ≤ (x5_1 : Int) := of_decide_eq_true (by first | (with_reducible assumption) | assumption)
        have q163 : x5_1 < (l1.length : Int) := of_decide_eq_true (by first | (with_reducible assumption) | assumption)
        obtain ⟨ad163, A163_0, c163_0, e163, hx163_0, hl163_0, hi163_0⟩ := at_L1 HR1.out x5_1 p163 q163
        cases e163
        have HR163_0 := Aside0.mk hi163_0
        have HC163_0 := Aside0.mk hl163_0
        clear hi163_0 hl163_0
        replace p163 := eq_true p163
        replace q163 := eq_true q163
        go_wp2_with (first | (go_at_call 19; (with_reducible refine (laws_eqIntS.calls k1 _ _ (rd_L1 l0 x5_1) _ _ (rd_L1 l1 x5_1) true _ ?side1 ?side2 ?side3 ?side4 A7.out).mono ?_); (case side1 => repeat (first | exact HR162_0.out | (with_reducible refine Kd.C_alloc ?_ _) | (with_reducible refine Kd.C_drewN ?_ _) | (with_reducible refine Kd.C_drew ?_))); (case side2 => exact HC162_0.out); (case side3 => repeat (first | exact HR163_0.out | (with_reducible refine Kd.C_alloc ?_ _) | (with_reducible refine Kd.C_drewN ?_ _) | (with_reducible refine Kd.C_drew ?_))); (case side4 => exact HC163_0.out); rintro e w' ⟨rfl, ⟨nd, rfl⟩⟩; (try first | exact ⟨rfl, _, World.drewN_drewN _ _ _⟩ | exact ⟨rfl, _, Eq.trans (World.drewN_drewN _ _ _) (congrArg (World.drewN _) (Nat.add_assoc _ _ _))⟩)))
        repeat (go_quiet (first | (go_at_call 19; (with_reducible refine (laws_eqIntS.calls k1 _ _ (rd_L1 l0 x5_1) _ _ (rd_L1 l1 x5_1) true _ ?side1 ?side2 ?side3 ?side4 A7.out).mono ?_); (case side1 => repeat (first | exact HR162_0.out | (with_reducible refine Kd.C_alloc ?_ _) | (with_reducible refine Kd.C_drewN ?_ _) | (with_reducible refine Kd.C_drew ?_))); (case side2 => exact HC162_0.out); (case side3 => repeat (first | exact HR163_0.out | (with_reducible refine Kd.C_alloc ?_ _) | (with_reducible refine Kd.C_drewN ?_ _) | (with_reducible refine Kd.C_drew ?_))); (case side4 => exact HC163_0.out); rintro e w' ⟨rfl, ⟨nd, rfl⟩⟩; (try first | exact ⟨rfl, _, World.drewN_drewN _ _ _⟩ | exact ⟨rfl, _, Eq.trans (World.drewN_drewN _ _ _) (congrArg (World.drewN _) (Nat.add_assoc _ _ _))⟩))); try go_wp2_with (first | (go_at_call 19; (with_reducible refine (laws_eqIntS.calls k1 _ _ (rd_L1 l0 x5_1) _ _ (rd_L1 l1 x5_1) true _ ?side1 ?side2 ?side3 ?side4 A7.out).mono ?_); (case side1 => repeat (first | exact HR162_0.out | (with_reducible refine Kd.C_alloc ?_ _) | (with_reducible refine Kd.C_drewN ?_ _) | (with_reducible refine Kd.C_drew ?_))); (case side2 => exact HC162_0.out); (case side3 => repeat (first | exact HR163_0.out | (with_reducible refine Kd.C_alloc ?_ _) | (with_reducible refine Kd.C_drewN ?_ _) | (with_reducible refine Kd.C_drew ?_))); (case side4 => exact HC163_0.out); rintro e w' ⟨rfl, ⟨nd, rfl⟩⟩; (try first | exact ⟨rfl, _, World.drewN_drewN _ _ _⟩ | exact ⟨rfl, _, Eq.trans (World.drewN_drewN _ _ _) (congrArg (World.drewN _) (Nat.add_assoc _ _ _))⟩))))
        go_roundg k1
        case measure => have := HK1.out; omega
        case rel => exact ⟨(wrap64 (x5_1 + 1)), (by first | rfl | (simp; done) | (simp [*]; done)), H', ⟨by have := HK1.out; omega⟩, by repeat (first | exact Drawn0.refl _ | apply Drawn0.step)⟩
       ·replace c8 := Bool.eq_false_iff.mpr c8
        subst c8
        have H1 : (some false) = some r := by rw [if_neg (show ¬ (false = true) by decide)] at H; exact H
        clear H
        have H := H1
        clear H1
        obtain rfl := Option.some.inj H
        have p162 : 0 ≤ (x5_1 : Int) := of_decide_eq_true (by first | (with_reducible assumption) | assumption)
        have q162 : x5_1 < (l0.length : Int) := of_decide_eq_true (by first | (with_reducible assumption) | assumption)
        obtain ⟨ad162, A162_0, c162_0, e162, hx162_0, hl162_0, hi162_0⟩ := at_L1 HR0.out x5_1 p162 q162
        cases e162
        have HR162_0 := Aside0.mk hi162_0
        have HC162_0 := Aside0.mk hl162_0
        clear hi162_0 hl162_0
        replace p162 := eq_true p162
        replace q162 := eq_true q162
        have p163 : 0 ≤ (x5_1 : Int) := of_decide_eq_true (by first | (with_reducible assumption) | assumption)
        have q163 : x5_1 < (l1.length : Int) := of_decide_eq_true (by first | (with_reducible assumption) | assumption)
        obtain ⟨ad163, A163_0, c163_0, e163, hx163_0, hl163_0, hi163_0⟩ := at_L1 HR1.out x5_1 p163 q163
        cases e163
        have HR163_0 := Aside0.mk hi163_0
        have HC163_0 := Aside0.mk hl163_0
        clear hi163_0 hl163_0
        replace p163 := eq_true p163
        replace q163 := eq_true q163
        go_wp2_with (first | (go_at_call 19; (with_reducible refine (laws_eqIntS.calls k1 _ _ (rd_L1 l0 x5_1) _ _ (rd_L1 l1 x5_1) false _ ?side1 ?side2 ?side3 ?side4 A7.out).mono ?_); (case side1 => repeat (first | exact HR162_0.out | (with_reducible refine Kd.C_alloc ?_ _) | (with_reducible refine Kd.C_drewN ?_ _) | (with_reducible refine Kd.C_drew ?_))); (case side2 => exact HC162_0.out); (case side3 => repeat (first | exact HR163_0.out | (with_reducible refine Kd.C_alloc ?_ _) | (with_reducible refine Kd.C_drewN ?_ _) | (with_reducible refine Kd.C_drew ?_))); (case side4 => exact HC163_0.out); rintro e w' ⟨rfl, ⟨nd, rfl⟩⟩; (try first | exact ⟨rfl, _, World.drewN_drewN _ _ _⟩ | exact ⟨rfl, _, Eq.trans (World.drewN_drewN _ _ _) (congrArg (World.drewN _) (Nat.add_assoc _ _ _))⟩)))
        repeat (go_quiet (first | (go_at_call 19; (with_reducible refine (laws_eqIntS.calls k1 _ _ (rd_L1 l0 x5_1) _ _ (rd_L1 l1 x5_1) false _ ?side1 ?side2 ?side3 ?side4 A7.out).mono ?_); (case side1 => repeat (first | exact HR162_0.out | (with_reducible refine Kd.C_alloc ?_ _) | (with_reducible refine Kd.C_drewN ?_ _) | (with_reducible refine Kd.C_drew ?_))); (case side2 => exact HC162_0.out); (case side3 => repeat (first | exact HR163_0.out | (with_reducible refine Kd.C_alloc ?_ _) | (with_reducible refine Kd.C_drewN ?_ _) | (with_reducible refine Kd.C_drew ?_))); (case side4 => exact HC163_0.out); rintro e w' ⟨rfl, ⟨nd, rfl⟩⟩; (try first | exact ⟨rfl, _, World.drewN_drewN _ _ _⟩ | exact ⟨rfl, _, Eq.trans (World.drewN_drewN _ _ _) (congrArg (World.drewN _) (Nat.add_assoc _ _ _))⟩))); try go_wp2_with (first | (go_at_call 19; (with_reducible refine (laws_eqIntS.calls k1 _ _ (rd_L1 l0 x5_1) _ _ (rd_L1 l1 x5_1) false _ ?side1 ?side2 ?side3 ?side4 A7.out).mono ?_); (case side1 => repeat (first | exact HR162_0.out | (with_reducible refine Kd.C_alloc ?_ _) | (with_reducible refine Kd.C_drewN ?_ _) | (with_reducible refine Kd.C_drew ?_))); (case side2 => exact HC162_0.out); (case side3 => repeat (first | exact HR163_0.out | (with_reducible refine Kd.C_alloc ?_ _) | (with_reducible refine Kd.C_drewN ?_ _) | (with_reducible refine Kd.C_drew ?_))); (case side4 => exact HC163_0.out); rintro e w' ⟨rfl, ⟨nd, rfl⟩⟩; (try first | exact ⟨rfl, _, World.drewN_drewN _ _ _⟩ | exact ⟨rfl, _, Eq.trans (World.drewN_drewN _ _ _) (congrArg (World.drewN _) (Nat.add_assoc _ _ _))⟩))))
        go_ret
        exact ⟨by first | rfl | (simp; done) | (simp [*]; done), by repeat (first | exact Drawn0.refl _ | apply Drawn0.step)⟩
      ·rw [if_neg c6] at H
       exact absurd H (by simp)
     ·rw [if_neg c5] at H
      exact absurd H (by simp)
    ·rw [if_neg c4] at H
     have c4b0 : decide (x5_1 < (l0.length : Int)) = false := decide_eq_false c4
     clear c4
     obtain rfl := Option.some.inj H
     go_wp2
     repeat (go_quiet (fail); try go_wp2)
     go_ret
     exact ⟨by first | rfl | (simp; done) | (simp [*]; done), by repeat (first | exact Drawn0.refl _ | apply Drawn0.step)⟩
 ·rw [if_neg c3] at H
  have c3b0 : ((l0.length : Int) == (l1.length : Int)) = false := beq_eq_false_iff_ne.mpr c3
  have c3b1 : ((l0.length : Int) != (l1.length : Int)) = true := bne_iff_ne.mpr c3
  have c3b2 : (l0.length == l1.length) = false := by first | simpa using c3 | (simp at c3 ⊢; omega)
  obtain rfl := Option.some.inj H
  go_enter Tryz.func38, Tryz.ntmps38
  go_wp2
  repeat (go_quiet (fail); try go_wp2)
  go_ret
  exact ⟨by first | rfl | (simp; done) | (simp [*]; done), by repeat (first | exact Drawn0.refl _ | apply Drawn0.step)⟩
end Go.Proofs.YtnncjnjfdhbddaaGreat.Z
namespace Go.Proofs.YtnncjnjfdhbddaaGreat.Z
open Go.RowKit Go.Proofs.YtnncjnjfdhbddaaGreatW.PrintWords Go.Proofs.YtnncjnjfdhbddaaGreatW.PrintLast Go.Proofs.YtnncjnjfdhbddaaGreatW.PrintMore
attribute [local go_sem] max2_int min2_int max_two min_two max_three min_three max_four min_four
set_option linter.unusedVariables false
set_option linter.unusedSimpArgs false
def laws_heldIntSS.l0 : Nat → List (List Int) → Int → Int → Option (Int)
 | 0, _, _, _ => none
 | k + 1, x0, x1, x5 => if x5 < (x0.length : Int) then (if 0 ≤ x5 then ((laws_heldIntS.f k (rd_L1 x0 x5) x1).bind fun t413 => (if t413 < 0 then (some (-1)) else (laws_heldIntSS.l0 k x0 t413 (wrap64 (x5 + 1))))) else (none)) else (some x1)
def laws_heldIntSS.f (k : Nat) (l0 : List (List Int)) (a1 : Int) : Option (Int) := laws_heldIntSS.l0 k l0 a1 0
set_option maxHeartbeats 8000000 in
set_option maxRecDepth 100000 in
theorem laws_heldIntSS.calls (k : Nat) (A0 : Option Addr) (c0 : Nat) (l0 : List (List Int)) (a1 : Int) (r : Int) (w : World) (hr0 : Kd.C (Kd.slice 3 (Kd.int .i64)) w A0 l0.length l0) (hc0 : l0.length ≤ c0) (h : laws_heldIntSS.f k l0 a1 = some r) :
  Calls Tryz.prog 40 #[.slice A0 l0.length c0, .int .i64 a1] w fun e w' => e = .returned (.int .i64 r) ∧ Drawn0 w w' := by
 have HR0 := Aside0.mk hr0
 have HC0 := Aside0.mk hc0
 clear hr0 hc0
 have H : (laws_heldIntSS.l0 k l0 a1 0) = some r := h
 clear h
 have H' := Aside0.mk H
 clear H
 go_enter Tryz.func40, Tryz.ntmps40
 go_wp2
 go_loopg [1, 5] k (fun kq v1 v5 w' => ∃ (x1_1 : Int) (x5_1 : Int), v1 = .int .i64 x1_1 ∧ v5 = .int .i64 x5_1 ∧ Aside0 (laws_heldIntSS.l0 kq l0 x1_1 x5_1 = some r) ∧ Aside0 (kq ≤ k) ∧ Drawn0 w w')
 case atStart => exact ⟨(a1), (0), (by first | rfl | (simp; done) | (simp [*]; done)), (by first | rfl | (simp; done) | (simp [*]; done)), H', ⟨Nat.le_refl _⟩, by repeat (first | exact Drawn0.refl _ | apply Drawn0.step)⟩
 case round =>
  clear H'
  try clear p2
  obtain ⟨x1_1, x5_1, rfl, rfl, HA, HK1, ⟨m1, rfl⟩⟩ := hrel
  cases gk with
  | zero => exact absurd HA.out (by simp [laws_heldIntSS.l0])
  | succ k1 =>
   have H := HA.out
   clear HA
   simp only [laws_heldIntSS.l0] at H
   by_cases c3 : x5_1 < (l0.length : Int)
   ·rw [if_pos c3] at H
    have c3b0 : decide (x5_1 < (l0.length : Int)) = true := decide_eq_true c3
    clear c3
    by_cases c4 : 0 ≤ x5_1
    ·rw [if_pos c4] at H
     have c4b0 : decide (0 ≤ x5_1) = true := decide_eq_true c4
     clear c4
     replace H := Option.bind_eq_some_iff.mp H
     obtain ⟨t413, A50, H⟩ := H
     replace H : (if t413 < 0 then (some (-1)) else (laws_heldIntSS.l0 k1 l0 t413 (wrap64 (x5_1 + 1)))) = some r := H
     have A5 := Aside0.mk A50
     clear A50
     by_cases c6 : t413 < 0
     ·rw [if_pos c6] at H
      have c6b0 : decide (t413 < 0) = true := decide_eq_true c6
      clear c6
      obtain rfl := Option.some.inj H
      have p412 : 0 ≤ (x5_1 : Int) := of_decide_eq_true (by first | (with_reducible assumption) | assumption)
      have q412 : x5_1 < (l0.length : Int) := of_decide_eq_true (by first | (with_reducible assumption) | assumption)
      obtain ⟨ad412, A412_0, c412_0, e412, hx412_0, hl412_0, hi412_0⟩ := at_L1 HR0.out x5_1 p412 q412
      cases e412
      have HR412_0 := Aside0.mk hi412_0
      have HC412_0 := Aside0.mk hl412_0
      clear hi412_0 hl412_0
      replace p412 := eq_true p412
      replace q412 := eq_true q412
      go_wp2_with (first | ((with_reducible refine gate_callee (f := 23) rfl ?_); refine goesL_ (some 17) rfl rfl Tryz.func23 (by kernel_rfl) rfl #[.slice A412_0 (rd_L1 l0 x5_1).length c412_0, .int .i64 x1_1] rfl (by (try simp only [List.map_toArray, List.map_cons, List.map_nil]); first | done | rfl | (simp only [List.length_drop, List.length_take]; rfl)) ?_; (with_reducible refine (laws_heldIntS.calls k1 _ _ (rd_L1 l0 x5_1) x1_1 t413 _ ?side1 ?side2 A5.out).mono ?_); (case side1 => repeat (first | exact HR412_0.out | (with_reducible refine Kd.C_alloc ?_ _) | (with_reducible refine Kd.C_drewN ?_ _) | (with_reducible refine Kd.C_drew ?_))); (case side2 => exact HC412_0.out); rintro e w' ⟨rfl, ⟨nd, rfl⟩⟩; refine ⟨_, rfl, ?_⟩))
      go_ret
      exact ⟨by first | rfl | (simp; done) | (simp [*]; done), by repeat (first | exact Drawn0.refl _ | apply Drawn0.step)⟩
     ·rw [if_neg c6] at H
      have c6b0 : decide (t413 < 0) = false := decide_eq_false c6
      clear c6
      have H' := Aside0.mk H
      clear H
      have p412 : 0 ≤ (x5_1 : Int) := of_decide_eq_true (by first | (with_reducible assumption) | assumption)
      have q412 : x5_1 < (l0.length : Int) := of_decide_eq_true (by first | (with_reducible assumption) | assumption)
      obtain ⟨ad412, A412_0, c412_0, e412, hx412_0, hl412_0, hi412_0⟩ := at_L1 HR0.out x5_1 p412 q412
      cases e412
      have HR412_0 := Aside0.mk hi412_0
      have HC412_0 := Aside0.mk hl412_0
      clear hi412_0 hl412_0
      replace p412 := eq_true p412
      replace q412 := eq_true q412
      go_wp2_with (first | ((with_reducible refine gate_callee (f := 23) rfl ?_); refine goesL_ (some 17) rfl rfl Tryz.func23 (by kernel_rfl) rfl #[.slice A412_0 (rd_L1 l0 x5_1).length c412_0, .int .i64 x1_1] rfl (by (try simp only [List.map_toArray, List.map_cons, List.map_nil]); first | done | rfl | (simp only [List.length_drop, List.length_take]; rfl)) ?_; (with_reducible refine (laws_heldIntS.calls k1 _ _ (rd_L1 l0 x5_1) x1_1 t413 _ ?side1 ?side2 A5.out).mono ?_); (case side1 => repeat (first | exact HR412_0.out | (with_reducible refine Kd.C_alloc ?_ _) | (with_reducible refine Kd.C_drewN ?_ _) | (with_reducible refine Kd.C_drew ?_))); (case side2 => exact HC412_0.out); rintro e w' ⟨rfl, ⟨nd, rfl⟩⟩; refine ⟨_, rfl, ?_⟩))
      go_roundg k1
      case measure => have := HK1.out; omega
      case rel => exact ⟨(t413), (wrap64 (x5_1 + 1)), (by first | rfl | (simp; done) | (simp [*]; done)), (by first | rfl | (simp; done) | (simp [*]; done)), H', ⟨by have := HK1.out; omega⟩, by repeat (first | exact Drawn0.refl _ | apply Drawn0.step)⟩
    ·rw [if_neg c4] at H
     exact absurd H (by simp)
   ·rw [if_neg c3] at H
    have c3b0 : decide (x5_1 < (l0.length : Int)) = false := decide_eq_false c3
    clear c3
    obtain rfl := Option.some.inj H
    go_wp2
    go_ret
    exact ⟨by first | rfl | (simp; done) | (simp [*]; done), by repeat (first | exact Drawn0.refl _ | apply Drawn0.step)⟩
end Go.Proofs.YtnncjnjfdhbddaaGreat.Z
namespace Go.Proofs.YtnncjnjfdhbddaaGreat.Z
open Go.RowKit Go.Proofs.YtnncjnjfdhbddaaGreatW.PrintWords Go.Proofs.YtnncjnjfdhbddaaGreatW.PrintLast Go.Proofs.YtnncjnjfdhbddaaGreatW.PrintMore
attribute [local go_sem] max2_int min2_int max_two min_two max_three min_three max_four min_four
set_option linter.unusedVariables false
set_option linter.unusedSimpArgs false
def offs (m : Nat) (xs : List (List Int)) (j : Nat) : Nat := m + ((xs.take j).map List.length).sum
theorem offs_succ (m : Nat) (xs : List (List Int)) (j : Nat) (h : j < xs.length) : offs m xs (j + 1) = offs m xs j + (xs.getD j []).length := by
 unfold offs
 rw [List.take_succ_eq_append_getElem h, List.map_append, List.sum_append]
 simp [List.getD_eq_getElem?_getD, h, Nat.add_assoc]
theorem offs_le (m : Nat) (xs : List (List Int)) (T : Nat) (hT : offs m xs xs.length ≤ T) : ∀ d j, j + d = xs.length → offs m xs j ≤ T
 | 0, j, h => by
  obtain rfl : j = xs.length := by omega
  exact hT
 | d + 1, j, h => by
  have := offs_le m xs T hT d (j + 1) (by omega)
  rw [offs_succ m xs j (by omega)] at this
  omega
def markLL (m : Nat) (xs : List (List Int)) : List (List Int) := (List.range xs.length).map fun j => markL (offs m xs j) (xs.getD j []).length
def markLU (m : Nat) (xs : List (List Int)) (j : Nat) : List (List Int) := ((List.range j).map fun j => markL (offs m xs j) (xs.getD j []).length) ++ xs.drop j
theorem markLU_len (m : Nat) (xs : List (List Int)) (j : Nat) (h : j ≤ xs.length) : (markLU m xs j).length = xs.length := by
 simp [markLU]; omega
theorem markLU_get (m : Nat) (xs : List (List Int)) (j : Nat) (h : j < xs.length) : (markLU m xs j).getD j [] = xs.getD j [] := by
 simp [markLU, List.getD_eq_getElem?_getD, List.getElem?_append_right]
theorem markLU_set (m : Nat) (xs : List (List Int)) (j : Nat) (h : j < xs.length) : (markLU m xs j).set j (markL (offs m xs j) (xs.getD j []).length) = markLU m xs (j + 1) := by
 unfold markLU
 rw [List.set_append_right _ _ (by simp), List.drop_eq_getElem_cons h, List.range_succ, List.map_append]
 simp only [List.length_map, List.length_range, Nat.sub_self, List.set_cons_zero, List.append_assoc]
 rfl
theorem markLL_get (m : Nat) (xs : List (List Int)) (j : Nat) (h : j < xs.length) : (markLL m xs).getD j [] = markL (offs m xs j) (xs.getD j []).length := by
 simp [markLL, List.getD_eq_getElem?_getD, h]
theorem markLL_len (m : Nat) (xs : List (List Int)) : (markLL m xs).length = xs.length := by simp [markLL]
theorem heldSS_l (m : Nat) (xs : List (List Int)) (hx : xs.length ≤ 2 ^ 60) (hT : offs m xs xs.length ≤ 2 ^ 60) : ∀ (d j k : Nat), j + d = xs.length → (offs m xs xs.length) + d < k → laws_heldIntSS.l0 k (markLL m xs) ((offs m xs j : Nat) : Int) (j : Int) = some ((offs m xs xs.length : Nat) : Int)
 | 0, j, k, h, hk => by
  obtain ⟨k, rfl⟩ : ∃ m, k = m + 1 := ⟨k - 1, by omega⟩
  obtain rfl : j = xs.length := by omega
  rw [laws_heldIntSS.l0, if_neg (by rw [markLL_len]; omega)]
 | d + 1, j, k, h, hk => by
  obtain ⟨k, rfl⟩ : ∃ m, k = m + 1 := ⟨k - 1, by omega⟩
  have hj : j < xs.length := by omega
  have h1 := offs_le m xs _ hT (d + 1) j h
  have h2 := offs_le m xs _ (Nat.le_refl (offs m xs xs.length)) d (j + 1) (by omega)
  have h3 := offs_succ m xs j hj
  rw [laws_heldIntSS.l0, if_pos (by rw [markLL_len]; omega), if_pos (by omega)]
  have e : rd_L1 (markLL m xs) (j : Int) = markL (offs m xs j) (xs.getD j []).length := markLL_get m xs j hj
  rw [e, heldIntS_f (offs m xs j) (xs.getD j []).length (by omega) h1 k (by omega), Option.bind_some, if_neg (by omega), wrap64_nat1 j (by omega), ← h3]
  exact heldSS_l m xs hx hT d (j + 1) k (by omega) (by omega)
theorem heldSS_f (m : Nat) (xs : List (List Int)) (hx : xs.length ≤ 2 ^ 60) (hT : offs m xs xs.length ≤ 2 ^ 60) (k : Nat) (hk : offs m xs xs.length + xs.length < k) : laws_heldIntSS.f k (markLL m xs) (m : Int) = some ((offs m xs xs.length : Nat) : Int) := by
 rw [laws_heldIntSS.f]
 have := heldSS_l m xs hx hT xs.length 0 k (by omega) (by omega)
 simpa [offs] using this
theorem eqSS_l (xs : List (List Int)) (hx : xs.length ≤ 2 ^ 60) (B : Nat) (hB : ∀ x ∈ xs, x.length ≤ B) (hB2 : B ≤ 2 ^ 60) : ∀ (d j k : Nat), j + d = xs.length → B + d < k → laws_eqIntSS.l0 k xs xs (j : Int) = some true
 | 0, j, k, h, hk => by
  obtain ⟨k, rfl⟩ : ∃ m, k = m + 1 := ⟨k - 1, by omega⟩
  rw [laws_eqIntSS.l0, if_neg (by omega)]
 | d + 1, j, k, h, hk => by
  obtain ⟨k, rfl⟩ : ∃ m, k = m + 1 := ⟨k - 1, by omega⟩
  have hj : j < xs.length := by omega
  have hm : rd_L1 xs (j : Int) ∈ xs := by
   show xs.getD j [] ∈ xs
   simp [List.getD_eq_getElem?_getD, hj]
  have hb := hB _ hm
  rw [laws_eqIntSS.l0, if_pos (by omega), if_pos (by omega), if_pos (by omega), eqIntS_f _ (by omega) k (by omega), Option.bind_some, if_pos rfl, wrap64_nat1 j (by omega)]
  exact eqSS_l xs hx B hB hB2 d (j + 1) k (by omega) (by omega)
theorem eqSS_f (xs : List (List Int)) (hx : xs.length ≤ 2 ^ 60) (B : Nat) (hB : ∀ x ∈ xs, x.length ≤ B) (hB2 : B ≤ 2 ^ 60) (k : Nat) (hk : B + xs.length < k) : laws_eqIntSS.f k xs xs = some true := by
 rw [laws_eqIntSS.f, if_pos rfl]
 exact eqSS_l xs hx B hB hB2 xs.length 0 k (by omega) (by omega)
theorem grown_of_kept {w0 w w' : World} {b : Option Nat} (hB : Below w0.heap.size w0 w) (hB' : Below w0.heap.size w0 w') (hk : Kept w w' (fun k => some k = b)) : w.grownBy w' b :=
 ⟨hB'.os.trans hB.os.symm, hB'.tape.trans hB.tape.symm, hB'.output.trans hB.output.symm, hk.1, fun i hi hne => hk.2 i hi hne⟩
set_option maxRecDepth 100000 in
set_option maxHeartbeats 4000000 in
theorem markIntSS_any (w0 w : World) (P : Nat → Prop) (v : Value) (xs : List (List Int)) (m : Nat) (hx : xs.length ≤ 2 ^ 40) (hT : offs m xs xs.length ≤ 2 ^ 50) (hB : Below w0.heap.size w0 w) (hS : Kd.S (Kd.slice 3 (Kd.int .i64)) 36 w w0.heap.size P v xs) :
  Calls Tryz.prog 39 #[v, .int .i64 (m : Int)] w fun e w' => e = .returned (.int .i64 ((offs m xs xs.length : Nat) : Int)) ∧ Kd.S (Kd.slice 3 (Kd.int .i64)) 36 w' w0.heap.size P v (markLL m xs) ∧ Below w0.heap.size w0 w' ∧ Kept w w' P := by
 obtain ⟨A, c, rfl⟩ := Kd.S_slice hS
 have hS' : Kd.S (Kd.slice 3 (Kd.int .i64)) 36 w w0.heap.size P (.slice A xs.length c) (markLU m xs 0) := hS
 have HS := Aside0.mk hS'
 have HB := Aside0.mk hB
 have HLe := Aside0.mk (offs_le m xs _ (Nat.le_refl (offs m xs xs.length)))
 have HSucc := Aside0.mk (offs_succ m xs)
 have HGet := Aside0.mk (markLU_get m xs)
 have HSet := Aside0.mk (markLU_set m xs)
 have HEnd := Aside0.mk (show markLU m xs xs.length = markLL m xs by simp [markLU, markLL])
 have HLen := Aside0.mk (markLU_len m xs)
 have HT := Aside0.mk hT
 have h00 : offs m xs 0 = m := by simp [offs]
 have H00 := Aside0.mk h00
 obtain ⟨N, hN⟩ : ∃ N, N = xs.length := ⟨_, rfl⟩
 have HN := Aside0.mk hN
 rw [← hN] at hx ⊢
 rw [← hN] at HS HLe HEnd HT HLen
 clear hS hS' hB hT h00 hN
 go_enter Tryz.func39, Tryz.ntmps39
 go_wp2
 go_loopg [1, 5] N (fun gg s1 s5 wr => ∃ j : Nat, j ≤ N ∧ N - j ≤ gg ∧ s5 = .int .i64 j ∧ s1 = .int .i64 ((offs m xs j : Nat) : Int) ∧ Aside0 (Kd.S (Kd.slice 3 (Kd.int .i64)) 36 wr w0.heap.size P (.slice A N c) (markLU m xs j)) ∧ Aside0 (Below w0.heap.size w0 wr) ∧ Aside0 (Kept w wr P))
 case atStart => exact ⟨0, Nat.zero_le _, by omega, rfl, by rw [H00.out], HS, HB, ⟨Kept.refl _ _⟩⟩
 case round =>
  clear HS HB
  obtain ⟨j, hj, hg, rfl, rfl, HS, HB, HK⟩ := hrel
  by_cases hlt : j < N
  ·have hjz : (j : Int) < (N : Int) := by omega
   have hj0 : (0 : Int) ≤ (j : Int) := by omega
   have hA : ∃ ad, A = some ad := by
    obtain ⟨_, _, hC⟩ := Kd.S_reads' HS.out
    obtain ⟨ad, e, _⟩ := hC.2.2 (by rw [HLen.out j hj]; omega)
    exact ⟨ad, e⟩
   obtain ⟨ad, rfl⟩ := hA
   obtain ⟨oki, cs, hcl, hM, hcell, hoki, hback⟩ := Kd.S_borrow HS.out ([] : List Int) (j : Int) hj0 hjz
   rw [Int.toNat_natCast] at hM hcell hback
   have hxl : j < xs.length := by have := HN.out; omega
   rw [HGet.out j hxl] at hM
   obtain ⟨u, rfl, hR⟩ := hM
   obtain ⟨A1, c1, rfl⟩ := Kd.R_slice hR
   have hR1 := Kd.R_tight rfl hR
   have hlen : (xs.getD j []).length ≤ 2 ^ 50 := by
    have h1 := HSucc.out j hxl
    have h2 := HLe.out (N - (j + 1)) (j + 1) (by omega)
    have h3 := HT.out
    omega
   have hoff : offs m xs j ≤ 2 ^ 50 := Nat.le_trans (HLe.out (N - j) j (by omega)) HT.out
   have hcall := laws_markIntS.calls ((xs.getD j []).length + 1) (fun k => some k = (Value.slice A1 (xs.getD j []).length c1).ownBlock) (.slice A1 (xs.getD j []).length c1) (xs.getD j []) ((offs m xs j : Nat) : Int) _ _ w0 wr HB.out hR1 (markIntS_f (xs.getD j []) (offs m xs j) (by omega) (by omega) _ (by omega))
   have h1 := hcell 0 _ rfl
   have h2 : ad.add (j * (Kd.slice 3 (Kd.int .i64)).sz + 0) = ad.add j := congrArg ad.add (Nat.mul_one j)
   rw [h2] at h1
   rw [← HSucc.out j hxl] at hcall
   have HOK := Aside0.mk (fun k (hk : some k = (Value.slice A1 (xs.getD j []).length c1).ownBlock) => hR.1 k hk.symm)
   have HOKI := Aside0.mk hoki
   have HCALL := Aside0.mk hcall
   have HBACK : Aside0 (∀ {w1 : World} {row : Option Nat} {x' : List Int}, wr.grownBy w1 row → (∀ k, row = some k → oki k) → (Kd.slice 3 (Kd.int .i64)).M w1 w0.heap.size oki x' [.slice A1 (xs.getD j []).length c1] → Kd.S (Kd.slice 3 (Kd.int .i64)) 36 w1 w0.heap.size P (.slice (some ad) N c) ((markLU m xs j).set j x')) := ⟨fun h1 h2 h3 => hback h1 h2 h3⟩
   have HSETJ := Aside0.mk (HSet.out j hxl)
   have hob : offs m xs (j + 1) ≤ 2 ^ 50 := Nat.le_trans (HLe.out (N - (j + 1)) (j + 1) (by omega)) HT.out
   clear hcell hback hR hR1 hcall hoki h2 hcl
   generalize hxj : xs.getD j [] = xj at *
   clear hxj
   go_wp2_with (go_at_call 22; refine HCALL.out.mono ?_; rintro e w2 ⟨rfl, hr2, hb2, hk2⟩; have HR2 := Aside0.mk hr2; have HB2 := Aside0.mk hb2; have HK2 := Aside0.mk hk2; clear hr2 hb2 hk2)
   go_roundg (N - (j + 1))
   case measure => omega
   case rel =>
    have hg2 := grown_of_kept HB.out HB2.out HK2.out
    have h3 := HBACK.out hg2 (fun k hk => HOK.out k hk.symm) ⟨_, rfl, Kd.R_mono (Kd.R_tight rfl HR2.out) (fun k hk => HOK.out k hk)⟩
    rw [HSETJ.out] at h3
    refine ⟨j + 1, by omega, by omega, by go_num, rfl, ⟨h3⟩, HB2, ⟨HK.out.then_ HK2.out (fun k hk => .inl (HOKI.out k (HOK.out k hk)).1)⟩⟩
  ·have hjz : ¬ (j : Int) < (N : Int) := by omega
   obtain rfl : j = N := by omega
   go_wp2
   go_ret
   have h1 := HS.out
   rw [HEnd.out] at h1
   exact ⟨rfl, h1, HB.out, HK.out⟩
end Go.Proofs.YtnncjnjfdhbddaaGreat.Z
namespace Go.Proofs.YtnncjnjfdhbddaaGreat.Z
open Go.RowKit Go.Proofs.YtnncjnjfdhbddaaGreatW.PrintWords Go.Proofs.YtnncjnjfdhbddaaGreatW.PrintLast Go.Proofs.YtnncjnjfdhbddaaGreatW.PrintMore
attribute [local go_sem] max2_int min2_int max_two min_two max_three min_three max_four min_four
set_option linter.unusedVariables false
set_option linter.unusedSimpArgs false
theorem sum_le (B : Nat) : ∀ (l : List (List Int)), (∀ x ∈ l, x.length ≤ B) → (l.map List.length).sum ≤ l.length * B
 | [], _ => by simp
 | x :: l, h => by
  have h1 := h x (by simp)
  have h2 := sum_le B l (fun y hy => h y (by simp [hy]))
  simp only [List.map_cons, List.sum_cons, List.length_cons, Nat.add_mul, Nat.one_mul]
  omega
theorem sureR_len (a : Int) (l : List S86) (win : Bool) : (sureR a l win).1.length ≤ 16 ∧ (∀ x ∈ (sureR a l win).1, x.length ≤ 62) ∧ offs 1 (sureR a l win).1 (sureR a l win).1.length ≤ 1000 := by
 suffices h : (sureR a l win).1.length ≤ 16 ∧ (∀ x ∈ (sureR a l win).1, x.length ≤ 62) by
  refine ⟨h.1, h.2, ?_⟩
  have := sum_le 62 _ h.2
  unfold offs
  rw [List.take_length]
  have := Nat.mul_le_mul_right 62 h.1
  omega
 rw [sureR]
 split
 ·rename_i hh
  obtain ⟨n, rfl, h1, h4⟩ := puzz_nat hh.1
  rw [Int.toNat_natCast]
  show (sureS n l win).length ≤ 16 ∧ ∀ x ∈ sureS n l win, x.length ≤ 62
  rw [sureS, ← srtP_sort Cmp.L]
  have h16 : 2 ^ n ≤ 16 := Nat.le_trans (Nat.pow_le_pow_right (by decide) h4) (by decide)
  refine ⟨by rw [srtP_len]; exact Nat.le_trans (partS_len _ _) h16, fun x hx => ?_⟩
  obtain ⟨m, _, rfl⟩ := List.mem_map.1 ((srtP_perm _ _).mem_iff.1 hx)
  rw [setI, List.length_map, setN]
  exact Nat.le_trans (List.length_filter_le _ _) (by simp)
 ·exact ⟨Nat.zero_le _, fun x hx => by cases hx⟩
end Go.Proofs.YtnncjnjfdhbddaaGreat.Z
namespace Go.Proofs.YtnncjnjfdhbddaaGreat.Z
open Go.RowKit Go.Proofs.YtnncjnjfdhbddaaGreatW.PrintWords Go.Proofs.YtnncjnjfdhbddaaGreatW.PrintLast Go.Proofs.YtnncjnjfdhbddaaGreatW.PrintMore
attribute [local go_sem] max2_int min2_int max_two min_two max_three min_three max_four min_four
set_option linter.unusedVariables false
set_option linter.unusedSimpArgs false
set_option maxRecDepth 100000 in
set_option maxHeartbeats 16000000 in
theorem lawSureWins_small (n : Int) (A : Option Addr) (c : Nat) (l : List S103) (hs : l.length ≤ 1048576) (w : World) (hr : Kd.C k103 w A l.length l) (hc : l.length ≤ c) :
  Calls Tryz.prog 9 #[.agg #[.int .i64 n, .slice A l.length c]] w fun e w' => e = .returned (.bool true) ∧ Below w.heap.size w w' := by
 have hu34 := Tryz.underlying34
 have hu41 := Tryz.underlying41
 obtain ⟨kf, hkf⟩ : ∃ kf, kf = l.length + 2000 := ⟨_, rfl⟩
 have hlm : (l.map toC).length = l.length := by simp
 have hsz := szPuzzle_f n l hr.2.1
 rw [if_pos hs] at hsz
 have htp := toPuzzle_f n l hs kf (by omega)
 have hep := eqPuzzle_f n (l.map toC) (by omega) kf (by omega)
 have hmk := markPuzzle_f n (l.map toC) 1 (by omega) (by omega) kf (by omega)
 rw [show ((1 : Nat) : Int) = 1 from rfl] at hmk
 have hspf : spec_SureWins.f n (l.map toC) = some (sureR n (l.map toC) true) := by
  rw [spec_SureWins.f, spec_pzSure.f, if_pos (by omega)]
  rfl
 have himf : impl_SureWins.f n (l.map toC) = some (sureR n (l.map toC) true) := by
  rw [impl_SureWins.f, impl_sure.f]
  rfl
 obtain ⟨hr1, hr2, hr3⟩ := sureR_len n (l.map toC) true
 generalize sureR n (l.map toC) true = rr at *
 obtain ⟨r1, r2⟩ := rr
 simp only at hr1 hr2 hr3
 have heq := eqSS_f r1 (by omega) 62 hr2 (by omega) kf (by omega)
 have hhd := heldSS_f 1 r1 (by omega) (by omega) kf (by omega)
 rw [show ((1 : Nat) : Int) = 1 from rfl] at hhd
 generalize l.map toC = x at *
 have HTP := Aside0.mk (fun W' (hB : Below w.heap.size w W') => laws_toPuzzle.calls kf n A c l n x W' (Kd.C_below hr hB) hc htp)
 have HSZ := Aside0.mk (fun W' (hB : Below w.heap.size w W') => laws_szPuzzle.calls n A c l 1048576 _ W' (Kd.C_below hr hB) hc hsz)
 have HSP := Aside0.mk (fun A2 c2 W' hC hc2 => spec_SureWins.calls n A2 c2 x r1 r2 W' hC hc2 hspf)
 have HIM := Aside0.mk (fun A2 c2 W' hC hc2 => impl_SureWins.calls n A2 c2 x r1 r2 W' hC hc2 himf)
 have HEQ := Aside0.mk (fun A1 c1 A2 c2 W' h1 h2 h3 h4 => laws_eqIntSS.calls kf A1 c1 r1 A2 c2 r1 true W' h1 h2 h3 h4 heq)
 have HEP := Aside0.mk (fun A1 c1 A2 c2 W' h1 h2 h3 h4 => laws_eqPuzzle.calls kf n A1 c1 x n A2 c2 x true W' h1 h2 h3 h4 hep)
 have HMP := Aside0.mk (fun u P W' w0 h1 h2 => laws_markPuzzle.calls kf n P u x 1 _ _ w0 W' h1 h2 hmk)
 obtain ⟨T, hT⟩ : ∃ T, T = offs 1 r1 r1.length := ⟨_, rfl⟩
 have hms : ∀ (w0 W : World) (P : Nat → Prop) (v : Value) (hB : Below w0.heap.size w0 W) (hS : Kd.S (Kd.slice 3 (Kd.int .i64)) 36 W w0.heap.size P v r1), Calls Tryz.prog 39 #[v, .int .i64 1] W fun e w' => e = .returned (.int .i64 (T : Int)) ∧ Kd.S (Kd.slice 3 (Kd.int .i64)) 36 w' w0.heap.size P v (markLL 1 r1) ∧ Below w0.heap.size w0 w' ∧ Kept W w' P := by
  intro w0 W P v hB hS
  rw [hT]
  exact markIntSS_any w0 W P v r1 1 (by omega) (by omega) hB hS
 have HMS := Aside0.mk hms
 rw [← hT] at hhd
 have hml := markLL_len 1 r1
 have hhc : ∀ (A1 : Option Addr) (c1 : Nat) (W' : World) (h1 : Kd.C (Kd.slice 3 (Kd.int .i64)) W' A1 r1.length (markLL 1 r1)) (h2 : r1.length ≤ c1), Calls Tryz.prog 40 #[.slice A1 r1.length c1, .int .i64 1] W' fun e w' => e = .returned (.int .i64 (T : Int)) ∧ Drawn0 W' w' := by
  intro A1 c1 W' h1 h2
  have := laws_heldIntSS.calls kf A1 c1 (markLL 1 r1) 1 (T : Int) W' (hml.symm ▸ h1) (by omega) hhd
  rw [hml] at this
  exact this
 have HHD := Aside0.mk hhc
 have hmc : ∀ (W' : World) (A1 : Option Addr) (c1 : Nat) {b : Nat} {P : Nat → Prop}, Kd.S (Kd.slice 3 (Kd.int .i64)) 36 W' b P (.slice A1 r1.length c1) (markLL 1 r1) → Kd.C (Kd.slice 3 (Kd.int .i64)) W' A1 r1.length (markLL 1 r1) := by
  intro W' A1 c1 b P h
  have h2 := (Kd.S_reads' h).2.2
  rw [hml] at h2
  exact h2
 have hmn : ∀ (W' : World) (A1 : Option Addr) (c1 : Nat) {b : Nat} {P : Nat → Prop}, Kd.S (Kd.slice 3 (Kd.int .i64)) 36 W' b P (.slice A1 r1.length c1) (markLL 1 r1) → r1.length ≤ c1 := by
  intro W' A1 c1 b P h
  exact (Kd.S_reads' h).2.1
 have HMC := Aside0.mk hmc
 have HMN := Aside0.mk hmn
 have ht0 : ¬ ((1048576 - l.length : Nat) : Int) < 0 := by omega
 have hmk0 : ¬ ((1 + 3 * x.length : Nat) : Int) < 0 := by omega
 have hT0 : ¬ (T : Int) < 0 := by omega
 clear hT hhd hms hhc hmc hmn hml heq hep hmk htp hsz hspf himf hr1 hr2 hr3 hlm hkf hs hr hc
 generalize (1048576 - l.length : Nat) = t0 at *
 generalize (1 + 3 * x.length : Nat) = t1 at *
 generalize l.length = L at *
 have HB := Aside0.mk ((Below.refl w.heap.size w).alloc (Nat.le_refl _) (.cells #[.int .i64 n, .slice A L c] 34))
 have HK := Aside0.mk (heap1_0 w (.cells #[.int .i64 n, .slice A L c] 34))
 have T1 := True.intro
 cases r2 <;> (
 go_enter Tryz.func9, Tryz.ntmps9
 go_wp2_with (first | (have tk_ := T1; go_at_call 15; refine (HSZ.out _ ?s1_).mono ?_; (case s1_ => exact (by (with_reducible repeat (first | exact HB.out | apply below_alloc | apply pw_below_drewN | apply below_drew1)))); rintro e w1 ⟨rfl, hb⟩; have n0_ := Aside0.mk (below_step (by (with_reducible repeat (first | exact HB.out | apply below_alloc | apply pw_below_drewN | apply below_drew1))) hb); have n1_ := Aside0.mk (blk_below (g := w.heap.size) (o := .cells #[.int .i64 n, .slice A L c] 34 (0, 0)) (by (with_reducible repeat (first | exact HK.out | refine blk_alloc ?_ _ | refine blk_drewN ?_ _ | refine blk_drew ?_))) hb); clear HB HK hb; have HB := n0_; clear n0_; have HK := n1_; clear n1_; have hy0 : w1.cell? ⟨w.heap.size, 0, none⟩ = some (.int .i64 n) := (blk_cell HK.out 0).trans rfl; have hy1 : w1.cell? ⟨w.heap.size, 1, none⟩ = some (.slice A L c) := (blk_cell HK.out 1).trans rfl;  clear tk_ T1; have T2 := True.intro) | (have tk_ := T2; go_at_call 17; refine (HTP.out _ ?s1_).mono ?_; (case s1_ => exact (by (with_reducible repeat (first | exact HB.out | apply below_alloc | apply pw_below_drewN | apply below_drew1)))); rintro e w2 ⟨v_, rfl, ho, hb⟩; obtain ⟨A2, c2, e_, hl_, hC_⟩ := Kd.R_reads ho; subst e_; have HL2 := Aside0.mk hl_; have HC2 := Aside0.mk hC_; clear ho hl_ hC_; have n0_ := Aside0.mk (below_step (by (with_reducible repeat (first | exact HB.out | apply below_alloc | apply pw_below_drewN | apply below_drew1))) hb); have n1_ := Aside0.mk (blk_below (g := w.heap.size) (o := .cells #[.int .i64 n, .slice A L c] 34 (0, 0)) (by (with_reducible repeat (first | exact HK.out | refine blk_alloc ?_ _ | refine blk_drewN ?_ _ | refine blk_drew ?_))) hb); clear HB HK hb; have HB := n0_; clear n0_; have HK := n1_; clear n1_; have hy0 : w2.cell? ⟨w.heap.size, 0, none⟩ = some (.int .i64 n) := (blk_cell HK.out 0).trans rfl; have hy1 : w2.cell? ⟨w.heap.size, 1, none⟩ = some (.slice A L c) := (blk_cell HK.out 1).trans rfl;  clear tk_ T2; have T3 := True.intro) | (have tk_ := T3; go_at_call 41; refine (HSP.out _ _ _ ?s3_ HL2.out).mono ?_; (case s3_ => exact (by (with_reducible repeat (first | exact HC2.out | refine Kd.C_alloc ?_ _ | refine Kd.C_drewN ?_ _ | refine Kd.C_drew ?_)))); rintro e w3 ⟨v_, rfl, ho, hb⟩; obtain ⟨A3, c3, e_⟩ := Kd.V_slice ho; subst e_; obtain ⟨_, hl_, hC_⟩ := Kd.V_reads' ho; have HL3 := Aside0.mk hl_; have HC3 := Aside0.mk hC_; clear ho hl_ hC_; have n0_ := Aside0.mk (below_step (by (with_reducible repeat (first | exact HB.out | apply below_alloc | apply pw_below_drewN | apply below_drew1))) hb); have n1_ := Aside0.mk (blk_below (g := w.heap.size) (o := .cells #[.int .i64 n, .slice A L c] 34 (0, 0)) (by (with_reducible repeat (first | exact HK.out | refine blk_alloc ?_ _ | refine blk_drewN ?_ _ | refine blk_drew ?_))) hb); clear HB HK hb; have HB := n0_; clear n0_; have HK := n1_; clear n1_; have hy0 : w3.cell? ⟨w.heap.size, 0, none⟩ = some (.int .i64 n) := (blk_cell HK.out 0).trans rfl; have hy1 : w3.cell? ⟨w.heap.size, 1, none⟩ = some (.slice A L c) := (blk_cell HK.out 1).trans rfl; have HB3 := HB; have HK3 := HK; have HX := Aside0.mk (Below.refl w3.heap.size w3);  clear tk_ T3; have T4 := True.intro) | (have tk_ := T4; go_at_call 17; refine (HTP.out _ ?s1_).mono ?_; (case s1_ => exact (by (with_reducible repeat (first | exact HB.out | apply below_alloc | apply pw_below_drewN | apply below_drew1)))); rintro e w4 ⟨v_, rfl, ho, hb⟩; obtain ⟨A4, c4, e_, hl_, hC_⟩ := Kd.R_reads ho; subst e_; have HL4 := Aside0.mk hl_; have HC4 := Aside0.mk hC_; have HR := Aside0.mk (Kd.R_mono (Kd.R_bound ho) (fun k hk => hk.2.2.1) : Kd.R k86 86 w4 w3.heap.size (fun k => k < w4.heap.size) (.slice A4 x.length c4) x); clear ho hl_ hC_; have n0_ := Aside0.mk (below_step (by (with_reducible repeat (first | exact HB.out | apply below_alloc | apply pw_below_drewN | apply below_drew1))) hb); have n1_ := Aside0.mk (blk_below (g := w.heap.size) (o := .cells #[.int .i64 n, .slice A L c] 34 (0, 0)) (by (with_reducible repeat (first | exact HK.out | refine blk_alloc ?_ _ | refine blk_drewN ?_ _ | refine blk_drew ?_))) hb); have n2_ := Aside0.mk (below_step (by (with_reducible repeat (first | exact HX.out | apply below_alloc | apply pw_below_drewN | apply below_drew1))) hb); clear HB HK HX hb; have HB := n0_; clear n0_; have HK := n1_; clear n1_; have HX := n2_; clear n2_; have hy0 : w4.cell? ⟨w.heap.size, 0, none⟩ = some (.int .i64 n) := (blk_cell HK.out 0).trans rfl; have hy1 : w4.cell? ⟨w.heap.size, 1, none⟩ = some (.slice A L c) := (blk_cell HK.out 1).trans rfl;  have HX34 := Aside0.mk HX.out.size; clear tk_ T4; have T5 := True.intro) | (have tk_ := T5; go_at_call 42; refine (HIM.out _ _ _ ?s3_ HL4.out).mono ?_; (case s3_ => exact (by (with_reducible repeat (first | exact HC4.out | refine Kd.C_alloc ?_ _ | refine Kd.C_drewN ?_ _ | refine Kd.C_drew ?_)))); rintro e w5 ⟨v_, rfl, ho, hb⟩; have HS := Aside0.mk (Kd.S_lower (Kd.S_mono (Kd.S_bound ho) (fun k hk => by have := hk.2.1; simp at this; omega)) (by simp) : Kd.S (Kd.slice 3 (Kd.int .i64)) 36 w5 w4.heap.size (fun k => w4.heap.size ≤ k) v_ r1); have HZ := Aside0.mk (blk_below (heap1_0 w4 _) hb); clear ho; obtain ⟨A5, c5, e_⟩ := Kd.S_slice HS.out; subst e_; have n0_ := Aside0.mk (below_step (by (with_reducible repeat (first | exact HB.out | apply below_alloc | apply pw_below_drewN | apply below_drew1))) hb); have n1_ := Aside0.mk (blk_below (g := w.heap.size) (o := .cells #[.int .i64 n, .slice A L c] 34 (0, 0)) (by (with_reducible repeat (first | exact HK.out | refine blk_alloc ?_ _ | refine blk_drewN ?_ _ | refine blk_drew ?_))) hb); have n2_ := Aside0.mk (below_step (by (with_reducible repeat (first | exact HX.out | apply below_alloc | apply pw_below_drewN | apply below_drew1))) hb); have n3_ := Aside0.mk (Kd.R_below (show Kd.R k86 86 _ w3.heap.size (fun k => k < w4.heap.size) (.slice A4 x.length c4) x from (by (with_reducible repeat (first | exact HR.out | refine Kd.R_alloc ?_ _ | refine Kd.R_drewN ?_ _ | refine Kd.R_drew ?_)))) hb); clear HB HK HX HR hb; have HB := n0_; clear n0_; have HK := n1_; clear n1_; have HX := n2_; clear n2_; have HR := n3_; clear n3_; have hy0 : w5.cell? ⟨w.heap.size, 0, none⟩ = some (.int .i64 n) := (blk_cell HK.out 0).trans rfl; have hy1 : w5.cell? ⟨w.heap.size, 1, none⟩ = some (.slice A L c) := (blk_cell HK.out 1).trans rfl; have hz0 : w5.cell? ⟨w4.heap.size, 0, none⟩ = some (.int .i64 n) := (blk_cell HZ.out 0).trans rfl; have hz1 : w5.cell? ⟨w4.heap.size, 1, none⟩ = some (.slice A4 x.length c4) := (blk_cell HZ.out 1).trans rfl;  clear tk_ T5; have T6 := True.intro) | (have tk_ := T6; go_at_call 38; refine (HEQ.out _ _ _ _ _ ?s5_ ?s6_ ?s7_ ?s8_).mono ?_; (case s5_ => exact (Kd.S_reads' (show Kd.S (Kd.slice 3 (Kd.int .i64)) 36 _ w4.heap.size (fun k => w4.heap.size ≤ k) (.slice A5 r1.length c5) r1 from (by (with_reducible repeat (first | exact HS.out | refine Kd.S_alloc ?_ _ | refine Kd.S_drewN ?_ _ | refine Kd.S_drew ?_))))).2.2); (case s6_ => exact (Kd.S_reads' HS.out).2.1); (case s7_ => exact (Kd.C_below HC3.out (by (with_reducible repeat (first | exact HX.out | apply below_alloc | apply pw_below_drewN | apply below_drew1))))); (case s8_ => exact HL3.out); rintro e w5d ⟨rfl, hd⟩; obtain ⟨m_, e_⟩ := hd.out; have hb := (show ∀ a b : World, b = a.drewN m_ → Below a.heap.size a b from fun a b h => h ▸ pw_below_drewN (Below.refl _ _) m_) _ _ e_; clear hd e_; have n0_ := Aside0.mk (below_step (by (with_reducible repeat (first | exact HB.out | apply below_alloc | apply pw_below_drewN | apply below_drew1))) hb); have n1_ := Aside0.mk (blk_below (g := w.heap.size) (o := .cells #[.int .i64 n, .slice A L c] 34 (0, 0)) (by (with_reducible repeat (first | exact HK.out | refine blk_alloc ?_ _ | refine blk_drewN ?_ _ | refine blk_drew ?_))) hb); have n2_ := Aside0.mk (below_step (by (with_reducible repeat (first | exact HX.out | apply below_alloc | apply pw_below_drewN | apply below_drew1))) hb); have n3_ := Aside0.mk (Kd.R_below (show Kd.R k86 86 _ w3.heap.size (fun k => k < w4.heap.size) (.slice A4 x.length c4) x from (by (with_reducible repeat (first | exact HR.out | refine Kd.R_alloc ?_ _ | refine Kd.R_drewN ?_ _ | refine Kd.R_drew ?_)))) hb); have n4_ := Aside0.mk (blk_below (g := w4.heap.size) (o := .cells #[.int .i64 n, .slice A4 x.length c4] 41 (0, 0)) (by (with_reducible repeat (first | exact HZ.out | refine blk_alloc ?_ _ | refine blk_drewN ?_ _ | refine blk_drew ?_))) hb); have n5_ := Aside0.mk (Kd.S_below (show Kd.S (Kd.slice 3 (Kd.int .i64)) 36 _ w4.heap.size (fun k => w4.heap.size ≤ k) (.slice A5 r1.length c5) r1 from (by (with_reducible repeat (first | exact HS.out | refine Kd.S_alloc ?_ _ | refine Kd.S_drewN ?_ _ | refine Kd.S_drew ?_)))) hb); clear HB HK HX HR HZ HS hb; have HB := n0_; clear n0_; have HK := n1_; clear n1_; have HX := n2_; clear n2_; have HR := n3_; clear n3_; have HZ := n4_; clear n4_; have HS := n5_; clear n5_; have hy0 : w5d.cell? ⟨w.heap.size, 0, none⟩ = some (.int .i64 n) := (blk_cell HK.out 0).trans rfl; have hy1 : w5d.cell? ⟨w.heap.size, 1, none⟩ = some (.slice A L c) := (blk_cell HK.out 1).trans rfl; have hz0 : w5d.cell? ⟨w4.heap.size, 0, none⟩ = some (.int .i64 n) := (blk_cell HZ.out 0).trans rfl; have hz1 : w5d.cell? ⟨w4.heap.size, 1, none⟩ = some (.slice A4 x.length c4) := (blk_cell HZ.out 1).trans rfl;  clear tk_ T6; have T7 := True.intro))
 go_region_law (first | (have tk_ := T7; go_simp; go_at_call 17; refine (HTP.out _ ?s1_).mono ?_; (case s1_ => exact (by (with_reducible repeat (first | exact HB.out | apply below_alloc | apply pw_below_drewN | apply below_drew1)))); rintro e w6 ⟨v_, rfl, ho, hb⟩; obtain ⟨A6, c6, e_, hl_, hC_⟩ := Kd.R_reads ho; subst e_; have HL6 := Aside0.mk hl_; have HC6 := Aside0.mk hC_; clear ho hl_ hC_; have n0_ := Aside0.mk (below_step (by (with_reducible repeat (first | exact HB.out | apply below_alloc | apply pw_below_drewN | apply below_drew1))) hb); have n1_ := Aside0.mk (blk_below (g := w.heap.size) (o := .cells #[.int .i64 n, .slice A L c] 34 (0, 0)) (by (with_reducible repeat (first | exact HK.out | refine blk_alloc ?_ _ | refine blk_drewN ?_ _ | refine blk_drew ?_))) hb); have n2_ := Aside0.mk (below_step (by (with_reducible repeat (first | exact HX.out | apply below_alloc | apply pw_below_drewN | apply below_drew1))) hb); have n3_ := Aside0.mk (Kd.R_below (show Kd.R k86 86 _ w3.heap.size (fun k => k < w4.heap.size) (.slice A4 x.length c4) x from (by (with_reducible repeat (first | exact HR.out | refine Kd.R_alloc ?_ _ | refine Kd.R_drewN ?_ _ | refine Kd.R_drew ?_)))) hb); have n4_ := Aside0.mk (blk_below (g := w4.heap.size) (o := .cells #[.int .i64 n, .slice A4 x.length c4] 41 (0, 0)) (by (with_reducible repeat (first | exact HZ.out | refine blk_alloc ?_ _ | refine blk_drewN ?_ _ | refine blk_drew ?_))) hb); have n5_ := Aside0.mk (Kd.S_below (show Kd.S (Kd.slice 3 (Kd.int .i64)) 36 _ w4.heap.size (fun k => w4.heap.size ≤ k) (.slice A5 r1.length c5) r1 from (by (with_reducible repeat (first | exact HS.out | refine Kd.S_alloc ?_ _ | refine Kd.S_drewN ?_ _ | refine Kd.S_drew ?_)))) hb); clear HB HK HX HR HZ HS hb; have HB := n0_; clear n0_; have HK := n1_; clear n1_; have HX := n2_; clear n2_; have HR := n3_; clear n3_; have HZ := n4_; clear n4_; have HS := n5_; clear n5_; have hy0 : w6.cell? ⟨w.heap.size, 0, none⟩ = some (.int .i64 n) := (blk_cell HK.out 0).trans rfl; have hy1 : w6.cell? ⟨w.heap.size, 1, none⟩ = some (.slice A L c) := (blk_cell HK.out 1).trans rfl;  have hz0 : w6.cell? ⟨w4.heap.size, 0, none⟩ = some (.int .i64 n) := (blk_cell HZ.out 0).trans rfl; have hz1 : w6.cell? ⟨w4.heap.size, 1, none⟩ = some (.slice A4 x.length c4) := (blk_cell HZ.out 1).trans rfl; clear tk_ T7; have T8 := True.intro) | (have tk_ := T8; go_simp; go_at_call 20; refine (HEP.out _ _ _ _ _ ?s5_ ?s6_ ?s7_ HL6.out).mono ?_; (case s5_ => exact (Kd.R_reads' (show Kd.R k86 86 _ w3.heap.size (fun k => k < w4.heap.size) (.slice A4 x.length c4) x from (by (with_reducible repeat (first | exact HR.out | refine Kd.R_alloc ?_ _ | refine Kd.R_drewN ?_ _ | refine Kd.R_drew ?_))))).2.2); (case s6_ => exact (Kd.R_reads' HR.out).2.1); (case s7_ => exact (by (with_reducible repeat (first | exact HC6.out | refine Kd.C_alloc ?_ _ | refine Kd.C_drewN ?_ _ | refine Kd.C_drew ?_)))); rintro e w7 ⟨rfl, hb⟩; have n0_ := Aside0.mk (below_step (by (with_reducible repeat (first | exact HB.out | apply below_alloc | apply pw_below_drewN | apply below_drew1))) hb); have n1_ := Aside0.mk (blk_below (g := w.heap.size) (o := .cells #[.int .i64 n, .slice A L c] 34 (0, 0)) (by (with_reducible repeat (first | exact HK.out | refine blk_alloc ?_ _ | refine blk_drewN ?_ _ | refine blk_drew ?_))) hb); have n2_ := Aside0.mk (below_step (by (with_reducible repeat (first | exact HX.out | apply below_alloc | apply pw_below_drewN | apply below_drew1))) hb); have n3_ := Aside0.mk (Kd.R_below (show Kd.R k86 86 _ w3.heap.size (fun k => k < w4.heap.size) (.slice A4 x.length c4) x from (by (with_reducible repeat (first | exact HR.out | refine Kd.R_alloc ?_ _ | refine Kd.R_drewN ?_ _ | refine Kd.R_drew ?_)))) hb); have n4_ := Aside0.mk (blk_below (g := w4.heap.size) (o := .cells #[.int .i64 n, .slice A4 x.length c4] 41 (0, 0)) (by (with_reducible repeat (first | exact HZ.out | refine blk_alloc ?_ _ | refine blk_drewN ?_ _ | refine blk_drew ?_))) hb); have n5_ := Aside0.mk (Kd.S_below (show Kd.S (Kd.slice 3 (Kd.int .i64)) 36 _ w4.heap.size (fun k => w4.heap.size ≤ k) (.slice A5 r1.length c5) r1 from (by (with_reducible repeat (first | exact HS.out | refine Kd.S_alloc ?_ _ | refine Kd.S_drewN ?_ _ | refine Kd.S_drew ?_)))) hb); clear HB HK HX HR HZ HS hb; have HB := n0_; clear n0_; have HK := n1_; clear n1_; have HX := n2_; clear n2_; have HR := n3_; clear n3_; have HZ := n4_; clear n4_; have HS := n5_; clear n5_; have hy0 : w7.cell? ⟨w.heap.size, 0, none⟩ = some (.int .i64 n) := (blk_cell HK.out 0).trans rfl; have hy1 : w7.cell? ⟨w.heap.size, 1, none⟩ = some (.slice A L c) := (blk_cell HK.out 1).trans rfl; have hz0 : w7.cell? ⟨w4.heap.size, 0, none⟩ = some (.int .i64 n) := (blk_cell HZ.out 0).trans rfl; have hz1 : w7.cell? ⟨w4.heap.size, 1, none⟩ = some (.slice A4 x.length c4) := (blk_cell HZ.out 1).trans rfl;  clear tk_ T8; have T9 := True.intro))
 all_goals
  go_wp2_with (first | (have tk_ := T9; go_at_call 21; refine (HMP.out _ (fun k => k < w4.heap.size) _ w3 ?s4_ ?s5_).mono ?_; (case s4_ => exact (by (with_reducible repeat (first | exact HX.out | apply below_alloc | apply pw_below_drewN | apply below_drew1)))); (case s5_ => exact (show Kd.R k86 86 _ w3.heap.size (fun k => k < w4.heap.size) (.slice A4 x.length c4) x from (by (with_reducible repeat (first | exact HR.out | refine Kd.R_alloc ?_ _ | refine Kd.R_drewN ?_ _ | refine Kd.R_drew ?_))))); rintro e w8 ⟨rfl, _, hx_, hk_⟩; have hs_ := Kd.S_step (show Kd.S (Kd.slice 3 (Kd.int .i64)) 36 _ w4.heap.size (fun k => w4.heap.size ≤ k) (.slice A5 r1.length c5) r1 from (by (with_reducible repeat (first | exact HS.out | refine Kd.S_alloc ?_ _ | refine Kd.S_drewN ?_ _ | refine Kd.S_drew ?_)))) (fun k hk hlt => hk_.2 k hlt (by omega)); have n0_ := Aside0.mk hx_; have n1_ := Aside0.mk hs_; clear HX HR HZ HS HB HK hx_ hs_ hk_; have HX := n0_; have HS := n1_; clear n0_ n1_; have HB := Aside0.mk (Below.trans HB3.out (HX.out.mono HB3.out.size)); have HK := Aside0.mk (blk_below HK3.out HX.out); have hy0 : w8.cell? ⟨w.heap.size, 0, none⟩ = some (.int .i64 n) := (blk_cell HK.out 0).trans rfl; have hy1 : w8.cell? ⟨w.heap.size, 1, none⟩ = some (.slice A L c) := (blk_cell HK.out 1).trans rfl;  clear tk_ T9; have T10 := True.intro) | (have tk_ := T10; go_at_call 38; refine (HEQ.out _ _ _ _ _ ?s5_ ?s6_ ?s7_ ?s8_).mono ?_; (case s5_ => exact (Kd.S_reads' (show Kd.S (Kd.slice 3 (Kd.int .i64)) 36 _ w4.heap.size (fun k => w4.heap.size ≤ k) (.slice A5 r1.length c5) r1 from (by (with_reducible repeat (first | exact HS.out | refine Kd.S_alloc ?_ _ | refine Kd.S_drewN ?_ _ | refine Kd.S_drew ?_))))).2.2); (case s6_ => exact (Kd.S_reads' HS.out).2.1); (case s7_ => exact (Kd.C_below HC3.out (by (with_reducible repeat (first | exact HX.out | apply below_alloc | apply pw_below_drewN | apply below_drew1))))); (case s8_ => exact HL3.out); rintro e w8d ⟨rfl, hd⟩; obtain ⟨m_, e_⟩ := hd.out; have hb := (show ∀ a b : World, b = a.drewN m_ → Below a.heap.size a b from fun a b h => h ▸ pw_below_drewN (Below.refl _ _) m_) _ _ e_; clear hd e_; have n0_ := Aside0.mk (below_step (by (with_reducible repeat (first | exact HB.out | apply below_alloc | apply pw_below_drewN | apply below_drew1))) hb); have n1_ := Aside0.mk (blk_below (g := w.heap.size) (o := .cells #[.int .i64 n, .slice A L c] 34 (0, 0)) (by (with_reducible repeat (first | exact HK.out | refine blk_alloc ?_ _ | refine blk_drewN ?_ _ | refine blk_drew ?_))) hb); have n2_ := Aside0.mk (below_step (by (with_reducible repeat (first | exact HX.out | apply below_alloc | apply pw_below_drewN | apply below_drew1))) hb); have n3_ := Aside0.mk (Kd.S_below (show Kd.S (Kd.slice 3 (Kd.int .i64)) 36 _ w4.heap.size (fun k => w4.heap.size ≤ k) (.slice A5 r1.length c5) r1 from (by (with_reducible repeat (first | exact HS.out | refine Kd.S_alloc ?_ _ | refine Kd.S_drewN ?_ _ | refine Kd.S_drew ?_)))) hb); clear HB HK HX HS hb; have HB := n0_; clear n0_; have HK := n1_; clear n1_; have HX := n2_; clear n2_; have HS := n3_; clear n3_; have hy0 : w8d.cell? ⟨w.heap.size, 0, none⟩ = some (.int .i64 n) := (blk_cell HK.out 0).trans rfl; have hy1 : w8d.cell? ⟨w.heap.size, 1, none⟩ = some (.slice A L c) := (blk_cell HK.out 1).trans rfl;  clear tk_ T10; have T11 := True.intro) | (have tk_ := T11; go_at_call 39; have h34_ := HX34.out; refine (HMS.out w3 _ (fun k => w4.heap.size ≤ k) _ ?s4_ ?s5_).mono ?_; (case s4_ => exact (by (with_reducible repeat (first | exact HX.out | apply below_alloc | apply pw_below_drewN | apply below_drew1)))); (case s5_ => exact Kd.S_lower (show Kd.S (Kd.slice 3 (Kd.int .i64)) 36 _ w4.heap.size (fun k => w4.heap.size ≤ k) (.slice A5 r1.length c5) r1 from (by (with_reducible repeat (first | exact HS.out | refine Kd.S_alloc ?_ _ | refine Kd.S_drewN ?_ _ | refine Kd.S_drew ?_)))) h34_); clear h34_; rintro e w9 ⟨rfl, hs_, hx_, _⟩; have n0_ := Aside0.mk hx_; have n1_ := Aside0.mk hs_; clear HX HS HB HK hx_ hs_; have HX := n0_; have HS := n1_; clear n0_ n1_; have HB := Aside0.mk (Below.trans HB3.out (HX.out.mono HB3.out.size)); have HK := Aside0.mk (blk_below HK3.out HX.out); have hy0 : w9.cell? ⟨w.heap.size, 0, none⟩ = some (.int .i64 n) := (blk_cell HK.out 0).trans rfl; have hy1 : w9.cell? ⟨w.heap.size, 1, none⟩ = some (.slice A L c) := (blk_cell HK.out 1).trans rfl;  clear tk_ T11; have T12 := True.intro) | (have tk_ := T12; go_at_call 40; refine (HHD.out _ _ _ ?s3_ ?s4_).mono ?_; (case s3_ => exact HMC.out _ _ _ (show Kd.S (Kd.slice 3 (Kd.int .i64)) 36 _ w3.heap.size (fun k => w4.heap.size ≤ k) (.slice A5 r1.length c5) (markLL 1 r1) from (by (with_reducible repeat (first | exact HS.out | refine Kd.S_alloc ?_ _ | refine Kd.S_drewN ?_ _ | refine Kd.S_drew ?_))))); (case s4_ => exact HMN.out _ _ _ HS.out); rintro e w12d ⟨rfl, hd⟩; obtain ⟨m_, e_⟩ := hd.out; have hb := (show ∀ a b : World, b = a.drewN m_ → Below a.heap.size a b from fun a b h => h ▸ pw_below_drewN (Below.refl _ _) m_) _ _ e_; clear hd e_; have n0_ := Aside0.mk (below_step (by (with_reducible repeat (first | exact HB.out | apply below_alloc | apply pw_below_drewN | apply below_drew1))) hb); have n1_ := Aside0.mk (blk_below (g := w.heap.size) (o := .cells #[.int .i64 n, .slice A L c] 34 (0, 0)) (by (with_reducible repeat (first | exact HK.out | refine blk_alloc ?_ _ | refine blk_drewN ?_ _ | refine blk_drew ?_))) hb); have n2_ := Aside0.mk (below_step (by (with_reducible repeat (first | exact HX.out | apply below_alloc | apply pw_below_drewN | apply below_drew1))) hb); have n3_ := Aside0.mk (Kd.S_below (show Kd.S (Kd.slice 3 (Kd.int .i64)) 36 _ w3.heap.size (fun k => w4.heap.size ≤ k) (.slice A5 r1.length c5) (markLL 1 r1) from (by (with_reducible repeat (first | exact HS.out | refine Kd.S_alloc ?_ _ | refine Kd.S_drewN ?_ _ | refine Kd.S_drew ?_)))) hb); clear HB HK HX HS hb; have HB := n0_; clear n0_; have HK := n1_; clear n1_; have HX := n2_; clear n2_; have HS := n3_; clear n3_; have hy0 : w12d.cell? ⟨w.heap.size, 0, none⟩ = some (.int .i64 n) := (blk_cell HK.out 0).trans rfl; have hy1 : w12d.cell? ⟨w.heap.size, 1, none⟩ = some (.slice A L c) := (blk_cell HK.out 1).trans rfl;  clear tk_ T12; have T13 := True.intro) | (have tk_ := T13; go_at_call 17; refine (HTP.out _ ?s1_).mono ?_; (case s1_ => exact (by (with_reducible repeat (first | exact HB.out | apply below_alloc | apply pw_below_drewN | apply below_drew1)))); rintro e w10 ⟨v_, rfl, ho, hb⟩; obtain ⟨A10, c10, e_, hl_, hC_⟩ := Kd.R_reads ho; subst e_; have HL10 := Aside0.mk hl_; have HC10 := Aside0.mk hC_; clear ho hl_ hC_; have n0_ := Aside0.mk (below_step (by (with_reducible repeat (first | exact HB.out | apply below_alloc | apply pw_below_drewN | apply below_drew1))) hb); have n1_ := Aside0.mk (blk_below (g := w.heap.size) (o := .cells #[.int .i64 n, .slice A L c] 34 (0, 0)) (by (with_reducible repeat (first | exact HK.out | refine blk_alloc ?_ _ | refine blk_drewN ?_ _ | refine blk_drew ?_))) hb); have n2_ := Aside0.mk (below_step (by (with_reducible repeat (first | exact HX.out | apply below_alloc | apply pw_below_drewN | apply below_drew1))) hb); have n3_ := Aside0.mk (Kd.S_below (show Kd.S (Kd.slice 3 (Kd.int .i64)) 36 _ w3.heap.size (fun k => w4.heap.size ≤ k) (.slice A5 r1.length c5) (markLL 1 r1) from (by (with_reducible repeat (first | exact HS.out | refine Kd.S_alloc ?_ _ | refine Kd.S_drewN ?_ _ | refine Kd.S_drew ?_)))) hb); clear HB HK HX HS hb; have HB := n0_; clear n0_; have HK := n1_; clear n1_; have HX := n2_; clear n2_; have HS := n3_; clear n3_; have hy0 : w10.cell? ⟨w.heap.size, 0, none⟩ = some (.int .i64 n) := (blk_cell HK.out 0).trans rfl; have hy1 : w10.cell? ⟨w.heap.size, 1, none⟩ = some (.slice A L c) := (blk_cell HK.out 1).trans rfl;  clear tk_ T13; have T14 := True.intro) | (have tk_ := T14; go_at_call 42; refine (HIM.out _ _ _ ?s3_ HL10.out).mono ?_; (case s3_ => exact (by (with_reducible repeat (first | exact HC10.out | refine Kd.C_alloc ?_ _ | refine Kd.C_drewN ?_ _ | refine Kd.C_drew ?_)))); rintro e w11 ⟨v_, rfl, ho, hb⟩; have HH := Aside0.mk ho; clear ho; obtain ⟨A11, c11, e_⟩ := Kd.S_slice HH.out; subst e_; have n0_ := Aside0.mk (below_step (by (with_reducible repeat (first | exact HB.out | apply below_alloc | apply pw_below_drewN | apply below_drew1))) hb); have n1_ := Aside0.mk (blk_below (g := w.heap.size) (o := .cells #[.int .i64 n, .slice A L c] 34 (0, 0)) (by (with_reducible repeat (first | exact HK.out | refine blk_alloc ?_ _ | refine blk_drewN ?_ _ | refine blk_drew ?_))) hb); have n2_ := Aside0.mk (below_step (by (with_reducible repeat (first | exact HX.out | apply below_alloc | apply pw_below_drewN | apply below_drew1))) hb); have n3_ := Aside0.mk (Kd.S_below (show Kd.S (Kd.slice 3 (Kd.int .i64)) 36 _ w3.heap.size (fun k => w4.heap.size ≤ k) (.slice A5 r1.length c5) (markLL 1 r1) from (by (with_reducible repeat (first | exact HS.out | refine Kd.S_alloc ?_ _ | refine Kd.S_drewN ?_ _ | refine Kd.S_drew ?_)))) hb); clear HB HK HX HS hb; have HB := n0_; clear n0_; have HK := n1_; clear n1_; have HX := n2_; clear n2_; have HS := n3_; clear n3_; have hy0 : w11.cell? ⟨w.heap.size, 0, none⟩ = some (.int .i64 n) := (blk_cell HK.out 0).trans rfl; have hy1 : w11.cell? ⟨w.heap.size, 1, none⟩ = some (.slice A L c) := (blk_cell HK.out 1).trans rfl;  clear tk_ T14; have T15 := True.intro) | (have tk_ := T15; go_at_call 38; refine (HEQ.out _ _ _ _ _ ?s5_ ?s6_ ?s7_ ?s8_).mono ?_; (case s5_ => exact (Kd.S_reads' (show Kd.S (Kd.slice 3 (Kd.int .i64)) 36 _ _ _ (.slice A11 r1.length c11) r1 from (by (with_reducible repeat (first | exact HH.out | refine Kd.S_alloc ?_ _ | refine Kd.S_drewN ?_ _ | refine Kd.S_drew ?_))))).2.2); (case s6_ => exact (Kd.S_reads' HH.out).2.1); (case s7_ => exact (Kd.C_below HC3.out (by (with_reducible repeat (first | exact HX.out | apply below_alloc | apply pw_below_drewN | apply below_drew1))))); (case s8_ => exact HL3.out); rintro e w11d ⟨rfl, hd⟩; obtain ⟨m_, e_⟩ := hd.out; have hb := (show ∀ a b : World, b = a.drewN m_ → Below a.heap.size a b from fun a b h => h ▸ pw_below_drewN (Below.refl _ _) m_) _ _ e_; clear hd e_; have n0_ := Aside0.mk (below_step (by (with_reducible repeat (first | exact HB.out | apply below_alloc | apply pw_below_drewN | apply below_drew1))) hb); have n1_ := Aside0.mk (blk_below (g := w.heap.size) (o := .cells #[.int .i64 n, .slice A L c] 34 (0, 0)) (by (with_reducible repeat (first | exact HK.out | refine blk_alloc ?_ _ | refine blk_drewN ?_ _ | refine blk_drew ?_))) hb); have n2_ := Aside0.mk (below_step (by (with_reducible repeat (first | exact HX.out | apply below_alloc | apply pw_below_drewN | apply below_drew1))) hb); have n3_ := Aside0.mk (Kd.S_below (show Kd.S (Kd.slice 3 (Kd.int .i64)) 36 _ w3.heap.size (fun k => w4.heap.size ≤ k) (.slice A5 r1.length c5) (markLL 1 r1) from (by (with_reducible repeat (first | exact HS.out | refine Kd.S_alloc ?_ _ | refine Kd.S_drewN ?_ _ | refine Kd.S_drew ?_)))) hb); clear HB HK HX HS hb; have HB := n0_; clear n0_; have HK := n1_; clear n1_; have HX := n2_; clear n2_; have HS := n3_; clear n3_; have hy0 : w11d.cell? ⟨w.heap.size, 0, none⟩ = some (.int .i64 n) := (blk_cell HK.out 0).trans rfl; have hy1 : w11d.cell? ⟨w.heap.size, 1, none⟩ = some (.slice A L c) := (blk_cell HK.out 1).trans rfl;  clear tk_ T15; have T16 := True.intro) | (have tk_ := T16; go_at_call 40; refine (HHD.out _ _ _ ?s3_ ?s4_).mono ?_; (case s3_ => exact HMC.out _ _ _ (show Kd.S (Kd.slice 3 (Kd.int .i64)) 36 _ w3.heap.size (fun k => w4.heap.size ≤ k) (.slice A5 r1.length c5) (markLL 1 r1) from (by (with_reducible repeat (first | exact HS.out | refine Kd.S_alloc ?_ _ | refine Kd.S_drewN ?_ _ | refine Kd.S_drew ?_))))); (case s4_ => exact HMN.out _ _ _ HS.out); rintro e w16d ⟨rfl, hd⟩; obtain ⟨m_, e_⟩ := hd.out; have hb := (show ∀ a b : World, b = a.drewN m_ → Below a.heap.size a b from fun a b h => h ▸ pw_below_drewN (Below.refl _ _) m_) _ _ e_; clear hd e_; have n0_ := Aside0.mk (below_step (by (with_reducible repeat (first | exact HB.out | apply below_alloc | apply pw_below_drewN | apply below_drew1))) hb); have n1_ := Aside0.mk (blk_below (g := w.heap.size) (o := .cells #[.int .i64 n, .slice A L c] 34 (0, 0)) (by (with_reducible repeat (first | exact HK.out | refine blk_alloc ?_ _ | refine blk_drewN ?_ _ | refine blk_drew ?_))) hb); have n2_ := Aside0.mk (below_step (by (with_reducible repeat (first | exact HX.out | apply below_alloc | apply pw_below_drewN | apply below_drew1))) hb); have n3_ := Aside0.mk (Kd.S_below (show Kd.S (Kd.slice 3 (Kd.int .i64)) 36 _ w3.heap.size (fun k => w4.heap.size ≤ k) (.slice A5 r1.length c5) (markLL 1 r1) from (by (with_reducible repeat (first | exact HS.out | refine Kd.S_alloc ?_ _ | refine Kd.S_drewN ?_ _ | refine Kd.S_drew ?_)))) hb); clear HB HK HX HS hb; have HB := n0_; clear n0_; have HK := n1_; clear n1_; have HX := n2_; clear n2_; have HS := n3_; clear n3_; have hy0 : w16d.cell? ⟨w.heap.size, 0, none⟩ = some (.int .i64 n) := (blk_cell HK.out 0).trans rfl; have hy1 : w16d.cell? ⟨w.heap.size, 1, none⟩ = some (.slice A L c) := (blk_cell HK.out 1).trans rfl;  clear tk_ T16; have T17 := True.intro))
  go_ret
  exact ⟨rfl, (by (with_reducible repeat (first | exact HB.out | apply below_alloc | apply pw_below_drewN | apply below_drew1)))⟩)
set_option maxRecDepth 100000 in
set_option maxHeartbeats 4000000 in
theorem lawSureWins_big (n : Int) (A : Option Addr) (c : Nat) (l : List S103) (hs : ¬ l.length ≤ 1048576) (w : World) (hr : Kd.C k103 w A l.length l) (hc : l.length ≤ c) :
  Calls Tryz.prog 9 #[.agg #[.int .i64 n, .slice A l.length c]] w fun e w' => e = .returned (.bool true) ∧ Below w.heap.size w w' := by
 have hu34 := Tryz.underlying34
 have hsz := szPuzzle_f n l hr.2.1
 rw [if_neg hs] at hsz
 have HSZ := Aside0.mk (fun W' (hB : Below w.heap.size w W') => laws_szPuzzle.calls n A c l 1048576 _ W' (Kd.C_below hr hB) hc hsz)
 clear hsz hs hr hc
 generalize l.length = L at *
 have HB := Aside0.mk ((Below.refl w.heap.size w).alloc (Nat.le_refl _) (.cells #[.int .i64 n, .slice A L c] 34))
 go_enter Tryz.func9, Tryz.ntmps9
 go_wp2_with (go_at_call 15; refine (HSZ.out _ ?s1_).mono ?_; (case s1_ => exact (by (with_reducible repeat (first | exact HB.out | apply below_alloc | apply pw_below_drewN | apply below_drew1)))); rintro e w1 ⟨rfl, hb⟩; have n0_ := Aside0.mk (below_step (by (with_reducible repeat (first | exact HB.out | apply below_alloc | apply pw_below_drewN | apply below_drew1))) hb); clear HB hb; have HB := n0_; clear n0_)
 go_ret
 exact ⟨rfl, (by (with_reducible repeat (first | exact HB.out | apply below_alloc | apply pw_below_drewN | apply below_drew1)))⟩
def laws_FnExactSureWins.f (_ : Nat) (_ : Int) (_ : List S103) : Option Bool := some true
theorem laws_FnExactSureWins.calls (k : Nat) (n : Int) (A : Option Addr) (c : Nat) (l : List S103) (r : Bool) (w : World) (hr : Kd.C k103 w A l.length l) (hc : l.length ≤ c) (h : laws_FnExactSureWins.f k n l = some r) :
  Calls Tryz.prog 9 #[.agg #[.int .i64 n, .slice A l.length c]] w fun e w' => e = .returned (.bool r) ∧ Below w.heap.size w w' := by
 obtain rfl := Option.some.inj h
 by_cases hs : l.length ≤ 1048576
 ·exact lawSureWins_small n A c l hs w hr hc
 ·exact lawSureWins_big n A c l hs w hr hc
theorem pureSureWins (n : Int) (l : List S103) (_ : l.length ≤ 9223372036854775807) : ∃ k, laws_FnExactSureWins.f k n l = some true := ⟨0, rfl⟩
end Go.Proofs.YtnncjnjfdhbddaaGreat.Z
namespace Go.Proofs.YtnncjnjfdhbddaaGreat.Z
open Go.RowKit Go.Proofs.YtnncjnjfdhbddaaGreatW.PrintWords Go.Proofs.YtnncjnjfdhbddaaGreatW.PrintLast Go.Proofs.YtnncjnjfdhbddaaGreatW.PrintMore
attribute [local go_sem] max2_int min2_int max_two min_two max_three min_three max_four min_four
set_option linter.unusedVariables false
set_option linter.unusedSimpArgs false
open Go.ChangeShapes Go.WideShapes Go.Deep
def Opens {α : Type} (P : Program) (t : TypeId) (d : Kd α) (good : α → Prop) : Prop := ∀ {H : Type} (enc : TypeId × Value → H) (w : World) (base : Nat) (sp : Nat → Bool) (held : Bool) (fuel : Nat) (cs : List Value) (x : DataW H × List MemPlace), DataW.trod enc P w base sp held fuel t cs = some x → ∃ a : α, d.K w a cs ∧ good a
def i64ok (n : Int) : Prop := -9223372036854775808 ≤ n ∧ n ≤ 9223372036854775807
section
variable {P : Program} {α β γ : Type}
theorem opens_int {t : TypeId} (ht : P.underlying t = some (.int .i64)) : Opens P t (Kd.int .i64) i64ok := by
 intro H enc w base sp held fuel cs x h
 obtain ⟨n, rfl, _, hw⟩ := DataW.trod_int ht h
 simp only [Lit.wf, Bool.and_eq_true, decide_eq_true_eq] at hw
 exact ⟨n, rfl, hw⟩
theorem opens_slice {t e : TypeId} {d : Kd α} {good : α → Prop} [Inhabited α] (ht : P.underlying t = some (.slice e)) (hc : P.cellsOf e = d.sz) (h0 : 0 < d.sz) (ho : Opens P e d good) : Opens P t (Kd.slice e d) (fun l => ∀ a ∈ l, good a) := by
 intro H enc w base sp held fuel cs x h
 rcases DataW.trod_slice ht h with ⟨rfl, _⟩ | ⟨a, len, cap, elems, rest, n, _, rfl, _, hb, hl, hm, hlen, hel, _⟩
 ·exact ⟨[], ⟨none, 0, rfl, Nat.le_refl _, rfl, Nat.zero_le _, fun h => absurd h (Nat.lt_irrefl _)⟩, fun a ha => by cases ha⟩
 ·have each : ∀ i, i < len → ∃ y : α × List Value, w.cells? base (a.add (i * P.cellsOf e)) (P.cellsOf e) = some y.2 ∧ d.K w y.1 y.2 ∧ good y.1 := by
   intro i hi
   have h1 := hel i hi
   rw [List.getElem?_eq_getElem (show i < elems.length by omega), Option.bind_eq_some_iff] at h1
   obtain ⟨cs', h2, h3⟩ := h1
   obtain ⟨y, hk, hg⟩ := ho enc w base sp held n cs' _ h3
   exact ⟨(y, cs'), h2, hk, hg⟩
  obtain ⟨f, hf⟩ := choose_lt each
  have hlx : ((List.range len).map fun i => (f i).1).length = len := by simp
  refine ⟨(List.range len).map fun i => (f i).1, ⟨some a, cap, by rw [hlx], by rw [hlx]; exact hl, ?_⟩, fun y hy => ?_⟩
  ·refine ⟨rfl, by rw [hlx]; unfold maxLen at hm; omega, fun _ => ⟨a, rfl, fun j p hj => ?_⟩⟩
   have hjl : j < len := by
    have := (List.getElem?_eq_some_iff.1 hj).1
    rwa [hlx] at this
   obtain ⟨h1, h2, _⟩ := hf j hjl
   have hp : (f j).1 = p := by
    rw [List.getElem?_map, List.getElem?_range hjl] at hj
    simpa using hj
   obtain ⟨_, h4, h5⟩ := World.cells?_some h1
   refine ⟨(f j).2, by rw [h4, hc], hp ▸ h2, fun i u hu => ?_⟩
   have hi : i < P.cellsOf e := by rw [← h4]; exact (List.getElem?_eq_some_iff.1 hu).1
   have h6 := h5 i hi
   rw [hu, hc] at h6
   rw [← h6, Deep.add_add]
  ·obtain ⟨i, hi, rfl⟩ := List.mem_map.1 hy
   exact (hf i (List.mem_range.1 hi)).2.2
theorem opens_struct3 {t : TypeId} {f0 f1 f2 : Field} {d0 : Kd α} {d1 : Kd β} {d2 : Kd γ} {g0 : α → Prop} {g1 : β → Prop} {g2 : γ → Prop} (ht : P.underlying t = some (.struct #[f0, f1, f2])) (hC : P.cellsOf t = d0.sz + (d1.sz + d2.sz)) (ho0 : f0.offset = 0) (ho1 : f1.offset = d0.sz) (ho2 : f2.offset = d0.sz + d1.sz) (hc0 : P.cellsOf f0.type = d0.sz) (hc1 : P.cellsOf f1.type = d1.sz) (hc2 : P.cellsOf f2.type = d2.sz)
  (h0 : Opens P f0.type d0 g0) (h1 : Opens P f1.type d1 g1) (h2 : Opens P f2.type d2 g2) : Opens P t (Kd.pair d0 (Kd.pair d1 d2)) (fun x => g0 x.1 ∧ g1 x.2.1 ∧ g2 x.2.2) := by
 intro H enc w base sp held fuel cs x h
 obtain ⟨y0, y1, y2, n, _, hl, t0, t1, t2⟩ := trod_struct3 ht h
 rw [ho0, hc0, List.drop_zero] at t0
 rw [ho1, hc1] at t1
 rw [ho2, hc2, List.take_of_length_le (by rw [List.length_drop]; omega)] at t2
 obtain ⟨a, ka, ga⟩ := h0 enc w base sp held n _ _ t0
 obtain ⟨b, kb, gb⟩ := h1 enc w base sp held n _ _ t1
 obtain ⟨c, kc, gc⟩ := h2 enc w base sp held n _ _ t2
 refine ⟨(a, b, c), ⟨_, _, (List.take_append_drop d0.sz cs).symm, ka, _, _, ?_, kb, kc⟩, ga, gb, gc⟩
 rw [← List.drop_drop]
 exact (List.take_append_drop d1.sz _).symm
theorem opens_iso {t : TypeId} {d : Kd α} {g : α → Prop} (f : β → α) (f' : α → β) (hf : ∀ a, f (f' a) = a) (h : Opens P t d g) : Opens P t (Kd.iso d f) (fun x => g (f x)) := by
 intro H enc w base sp held fuel cs x hx
 obtain ⟨a, ka, ga⟩ := h enc w base sp held fuel cs x hx
 refine ⟨f' a, ?_, ?_⟩
 ·show d.K w (f (f' a)) cs
  rw [hf]; exact ka
 ·show g (f (f' a))
  rw [hf]; exact ga
theorem open_num_slice {t e : TypeId} {f0 f1 : Field} {d1 : Kd α} {g1 : α → Prop} [Inhabited α] (ht : P.underlying t = some (.struct #[f0, f1])) (hone : oneCellFields P #[f0, f1] = true) (hC : P.cellsOf t = 2) (h0 : P.underlying f0.type = some (.int .i64)) (h1 : P.underlying f1.type = some (.slice e)) (hc : P.cellsOf e = d1.sz) (hs0 : 0 < d1.sz) (ho : Opens P e d1 g1)
  {H : Type} {enc : TypeId × Value → H} {w : World} {base : Nat} {sp : Nat → Bool} {held : Bool} {r : Reach} {b0 : Nat} {v : Value} {d : DataW H} {p : List MemPlace} (hv : Value.okWide P w r b0 t v) (h : DataW.Trod enc P w base sp held t v d p) :
  ∃ (n : Int) (A : Option Addr) (c : Nat) (l : List α), v = .agg #[.int .i64 n, .slice A l.length c] ∧ i64ok n ∧ l.length ≤ c ∧ d1.C w A l.length l ∧ ∀ a ∈ l, g1 a := by
 obtain ⟨v0, v1, y0, y1, m, rfl, _, _, t0, t1⟩ := Go.Joins.open_agg2 ht hone hC hv h
 obtain ⟨n, hn, hw⟩ := opens_int h0 enc w base sp held m _ _ t0
 obtain ⟨l, ⟨A, c, hA, hlc, hC⟩, hg⟩ := opens_slice h1 hc hs0 ho enc w base sp held m _ _ t1
 have e0 : v0 = .int .i64 n := by simpa using (show [v0] = [Value.int .i64 n] from hn)
 have e1 : v1 = .slice A l.length c := by simpa using hA
 exact ⟨n, A, c, l, by rw [e0, e1], hw, hlc, hC, hg⟩
end
end Go.Proofs.YtnncjnjfdhbddaaGreat.Z
namespace Go.Proofs.YtnncjnjfdhbddaaGreat.Z
open Go.RowKit Go.Proofs.YtnncjnjfdhbddaaGreatW.PrintWords Go.Proofs.YtnncjnjfdhbddaaGreatW.PrintLast Go.Proofs.YtnncjnjfdhbddaaGreatW.PrintMore
attribute [local go_sem] max2_int min2_int max_two min_two max_three min_three max_four min_four
set_option linter.unusedVariables false
set_option linter.unusedSimpArgs false
instance : Inhabited S103 := ⟨z103⟩
set_option maxRecDepth 100000 in
theorem opens_clue : Opens Tryz.prog 103 k103 (fun x => i64ok x.f0 ∧ i64ok x.f1 ∧ i64ok x.f2) :=
 opens_iso (fun x : S103 => (x.f0, x.f1, x.f2)) (fun p => ⟨p.1, p.2.1, p.2.2⟩) (fun _ => rfl)
  (opens_struct3 Tryz.underlying103 (by kernel_rfl) rfl rfl rfl (by kernel_rfl) (by kernel_rfl) (by kernel_rfl) (opens_int Tryz.underlying3) (opens_int Tryz.underlying3) (opens_int Tryz.underlying3))
set_option maxRecDepth 100000 in
theorem open_puzzle {H : Type} {enc : TypeId × Value → H} {w : World} {base : Nat} {sp : Nat → Bool} {held : Bool} {r : Reach} {b0 : Nat} {v : Value} {d : DataW H} {p : List MemPlace} (hv : Value.okWide Tryz.prog w r b0 34 v) (h : DataW.Trod enc Tryz.prog w base sp held 34 v d p) :
  ∃ (n : Int) (A : Option Addr) (c : Nat) (l : List S103), v = .agg #[.int .i64 n, .slice A l.length c] ∧ i64ok n ∧ l.length ≤ c ∧ Kd.C k103 w A l.length l ∧ ∀ a ∈ l, i64ok a.f0 ∧ i64ok a.f1 ∧ i64ok a.f2 :=
 open_num_slice Tryz.underlying34 (by kernel_rfl) (by kernel_rfl) Tryz.underlying3 Tryz.underlying32 (show Tryz.prog.cellsOf 103 = 3 by kernel_rfl) (show 0 < 3 by decide) opens_clue hv h
end Go.Proofs.YtnncjnjfdhbddaaGreat.Z
namespace Go.Proofs.YtnncjnjfdhbddaaGreat.fnExactSureWins
open Go.ChangeShapes Go.WideShapes Go.ChangeAt Go.RowKit
set_option linter.unusedVariables false
theorem own : ownKnob Tryz.prog.godebug = none := by kernel_rfl
theorem laidOut : laidOutB Tryz.prog = true := by kernel_rfl
set_option maxRecDepth 100000 in
theorem lifted (os : Os) (started : os.Started) (H : Type) (enc : TypeId × Value → H) :
  ReturnsInHanded {} Tryz.checked os 9 .any (Rows.fnExactSureWinsSpec.pre6 enc Tryz.prog Tryz.f9 Rows.fnExactSureWinsRow.domain false) (Rows.fnExactSureWinsSpec.post enc Tryz.prog Tryz.f9 false true false false) := by
 refine returnsInHanded_of_change_sized (C := Tryz.checked) own started (by kernel_rfl) Tryz.func9
  (ChangeSpec.witness6 (enc := enc) (C := Tryz.checked) false ⟨#[], #[.agg #[.int .i64 0, .slice none 0 0]], []⟩ 8 (by kernel_rfl) (by kernel_rfl) (by kernel_rfl) (by kernel_rfl)) ?_
 intro W base args ds gs before hval0 hW hcnd hsz0 _
 have hval : ∀ (j : Nat) t v, Tryz.f9.params[j]? = some t → args[j]? = some v → Value.okWide Tryz.prog W .any base t v := hval0
 have hW' := hW
 obtain ⟨p, q, hA0, hV, rfl, hfz, hnd⟩ := hW
 have hA : DataW.TrodAll enc Tryz.prog W 0 (fun _ => true) true Tryz.f9.params.toList args.toList ds p := hA0
 rw [Tryz.params9] at hA hval
 obtain ⟨v0, vs0, d0, ds0, p0, q0, hargs, rfl, rfl, h0, r0⟩ := trodAll_cons hA
 obtain ⟨rfl, rfl, rfl⟩ := trodAll_nil r0
 obtain rfl : args = #[v0] := by cases args; simp_all
 obtain ⟨rfl, rfl⟩ := trodVars_none hV
 have k0 := h0
 have lt0 : ∀ x ∈ p0, x.block < W.heap.size := by obtain ⟨m, hm⟩ := k0; exact DataW.trod_lt m _ _ _ hm
 obtain ⟨n, A, c, l, rfl, _, hlc, hC, hg⟩ := Z.open_puzzle (hval 0 34 v0 rfl rfl) h0
 clear hA0 hval0 hsz0
 obtain ⟨k, hk⟩ := Z.pureSureWins n l hC.2.1
 refine (Z.laws_FnExactSureWins.calls k n A c l true W hC hlc hk).mono fun e W' ⟨he, bel⟩ => ?_
 subst he
 exact ⟨_, rfl, _, _, _, [], _, [], hW', trodAll_mk1 (shut_bool Tryz.underlying4 _), (trodAll_cons_mk (Below.trod laidOut (by kernel_rfl) (of_decide_eq_true (by kernel_rfl)) k0 bel lt0) trodAll_mk0), rfl, bel.frame _, fun h => by cases h⟩
theorem over : Rows.fnExactSureWinsRow.holds Tryz.pinned (OpenSpec.ofChange Rows.fnExactSureWinsSpec) :=
 OpenClaim.holds_of_wide 9 Tryz.f9 rfl rfl rfl rfl rfl rfl rfl ⟨rfl, rfl, rfl, rfl, rfl⟩ rfl rfl rfl rfl rfl (by kernel_rfl) Tryz.func9 (by kernel_rfl)
  (of_decide_eq_true (by kernel_rfl)) (by unfold Func.isWrapper; first | (rw [if_pos (by decide +kernel)]; kernel_rfl) | (rw [if_neg (by decide +kernel)]; exact ⟨rfl, rfl⟩))
  (fun os started H enc _ => lifted os started H enc)
theorem proved : Rows.FnExactSureWinsSaid := over
#print axioms proved
end Go.Proofs.YtnncjnjfdhbddaaGreat.fnExactSureWins
namespace Go.Proofs.YtnncjnjfdhbddaaGreat
theorem fnExactSureWins_holds : Rows.FnExactSureWinsSaid := fnExactSureWins.proved
end Go.Proofs.YtnncjnjfdhbddaaGreat
