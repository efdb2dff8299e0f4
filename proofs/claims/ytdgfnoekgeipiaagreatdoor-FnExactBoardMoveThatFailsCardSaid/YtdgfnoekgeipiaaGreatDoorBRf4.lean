/- Words, contracts of Go functions and plain laws that the claim leans on (part 4). -/
import Derived.Test.YtdgfnoekgeipiaaGreatDoorBRf3
namespace Go.Proofs.YtdgfnoekgeipiaaGreatDoor.Q
open Go.RowKit Go.Proofs.YtdgfnoekgeipiaaGreatDoorW.PrintWords Go.Proofs.YtdgfnoekgeipiaaGreatDoorW.PrintLast Go.Proofs.YtdgfnoekgeipiaaGreatDoorW.PrintMore
attribute [local go_sem] max2_int min2_int max_two min_two max_three min_three max_four min_four   
set_option linter.unusedVariables false
set_option linter.unusedSimpArgs false
def spec_boMake.f (l0 : List ByteArray) (a1_0 : Int) (a1_1 : Int) : Option (List ByteArray) := if 0 < (l0.length : Int) then (if ((rdOf ByteArray.empty l0 0).size : Int) = 0 then (none) else (if 0 ≤ (wrap64 (Int.tdiv a1_0 ((rdOf ByteArray.empty l0 0).size : Int))) then (if (wrap64 (Int.tdiv a1_0 ((rdOf ByteArray.empty l0 0).size : Int))) < (l0.length : Int) then (if 0 ≤ (Int.tmod a1_0 ((rdOf ByteArray.empty l0 0).size : Int)) then (if (Int.tmod a1_0 ((rdOf ByteArray.empty l0 0).size : Int)) ≤ (wrap64 ((Int.tmod a1_0 ((rdOf ByteArray.empty l0 0).size : Int)) + 1)) then (if (wrap64 ((Int.tmod a1_0 ((rdOf ByteArray.empty l0 0).size : Int)) + 1)) ≤ ((rdOf ByteArray.empty l0 (wrap64 (Int.tdiv a1_0 ((rdOf ByteArray.empty l0 0).size : Int)))).size : Int) then ((spec_l1OwnS.f l0).bind fun t151 => (if (wrap64 (Int.tdiv a1_0 ((rdOf ByteArray.empty l0 0).size : Int))) < (t151.length : Int) then ((spec_liPut.f (rdOf ByteArray.empty t151 (wrap64 (Int.tdiv a1_0 ((rdOf ByteArray.empty l0 0).size : Int)))) (Int.tmod a1_0 ((rdOf ByteArray.empty l0 0).size : Int)) (⟨#[46]⟩ : ByteArray)).bind fun t155 => ((some (t151.set ((wrap64 (Int.tdiv a1_0 ((rdOf ByteArray.empty l0 0).size : Int))) : Int).toNat t155 : List ByteArray)).bind fun y156 => (if 0 ≤ (wrap64 (Int.tdiv a1_1 ((rdOf ByteArray.empty l0 0).size : Int))) then (if (wrap64 (Int.tdiv a1_1 ((rdOf ByteArray.empty l0 0).size : Int))) < (t151.length : Int) then ((spec_liPut.f (rdOf ByteArray.empty y156 (wrap64 (Int.tdiv a1_1 ((rdOf ByteArray.empty l0 0).size : Int)))) (Int.tmod a1_1 ((rdOf ByteArray.empty l0 0).size : Int)) ((rdOf ByteArray.empty l0 (wrap64 (Int.tdiv a1_0 ((rdOf ByteArray.empty l0 0).size : Int)))).extract ((Int.tmod a1_0 ((rdOf ByteArray.empty l0 0).size : Int)) : Int).toNat ((wrap64 ((Int.tmod a1_0 ((rdOf ByteArray.empty l0 0).size : Int)) + 1)) : Int).toNat)).bind fun t158 => (some (y156.set ((wrap64 (Int.tdiv a1_1 ((rdOf ByteArray.empty l0 0).size : Int))) : Int).toNat t158))) else (none)) else (none)))) else (none))) else (none)) else (none)) else (none)) else (none)) else (none))) else (none)
def spec_boMake.T2 : Bool × List (List Nat × List Nat) := (true, [([], []), ([], []), ([1], [1]), ([], []), ([2, 3], [2, 3]), ([0, 4], [0, 4]), ([5], [5]), ([], []), ([7], [7]), ([], []), ([8, 9], [8, 9]), ([], []), ([11], [11]), ([], []), ([12, 13], [12, 13]), ([14], [14]), ([6, 10, 15], [6, 10, 15]), ([16, 0, 1, 2, 3, 4, 5, 6, 7, 8, 9, 10, 11, 12, 13, 14, 15, 16], [16])])
def spec_boMake.B2 : List Nat := [0, 0, 2, 0, 14, 31, 63, 0, 128, 0, 896, 0, 2048, 0, 14336, 30720, 65535, 131071]
theorem spec_boMake.tab2 : rtab .any (opsOf Tryz.f25 2) = spec_boMake.T2 := by kernel_rfl
theorem spec_boMake.bits2 : waitsOk spec_boMake.T2.2 spec_boMake.B2 = true := by kernel_rfl
def spec_boMake.T4 : Bool × List (List Nat × List Nat) := (true, [([], []), ([], []), ([1], [1]), ([], []), ([2, 3], [2, 3]), ([], []), ([], []), ([6], [6]), ([], []), ([7, 8], [7, 8]), ([5, 9], [5, 9]), ([10], [10]), ([], []), ([12], [12]), ([], []), ([13, 14], [13, 14]), ([11, 15], [11, 15]), ([0, 4, 0, 1, 2, 3, 4, 5, 6, 7, 8, 9, 10, 11, 12, 13, 14, 15, 16], [0, 4]), ([17, 16, 16, 0, 1, 2, 3, 4, 5, 6, 7, 8, 9, 10, 11, 12, 13, 14, 15, 16], [16, 17])])
def spec_boMake.B4 : List Nat := [0, 0, 2, 0, 14, 0, 0, 64, 0, 448, 992, 2016, 0, 4096, 0, 28672, 65504, 131071, 262143]
theorem spec_boMake.tab4 : rtab .any (opsOf Tryz.f25 4) = spec_boMake.T4 := by kernel_rfl
theorem spec_boMake.bits4 : waitsOk spec_boMake.T4.2 spec_boMake.B4 = true := by kernel_rfl
def spec_boMake.T5 : Bool × List (List Nat × List Nat) := (true, [([], []), ([], []), ([1], [1]), ([], []), ([2, 3], [2, 3]), ([], []), ([], []), ([6], [6]), ([], []), ([7, 8], [7, 8]), ([5, 9], [5, 9]), ([10], [10]), ([], []), ([12], [12]), ([], []), ([13, 14], [13, 14]), ([], []), ([11, 15, 16], [11, 15, 16]), ([0, 4, 0, 1, 2, 3, 4, 5, 6, 7, 8, 9, 10, 11, 12, 13, 14, 15, 16, 17], [0, 4]), ([18, 17, 17, 0, 1, 2, 3, 4, 5, 6, 7, 8, 9, 10, 11, 12, 13, 14, 15, 16, 17], [17, 18])])
def spec_boMake.B5 : List Nat := [0, 0, 2, 0, 14, 0, 0, 64, 0, 448, 992, 2016, 0, 4096, 0, 28672, 0, 131040, 262143, 524287]
theorem spec_boMake.tab5 : rtab .any (opsOf Tryz.f25 5) = spec_boMake.T5 := by kernel_rfl
theorem spec_boMake.bits5 : waitsOk spec_boMake.T5.2 spec_boMake.B5 = true := by kernel_rfl
set_option maxHeartbeats 8000000 in
set_option maxRecDepth 100000 in
theorem spec_boMake.calls (A0 : Option Addr) (c0 : Nat) (l0 : List ByteArray) (a1_0 : Int) (a1_1 : Int) (r : List ByteArray) (w : World) (hG : GW w) (hr0 : Kd.C Kd.string w A0 l0.length l0) (hc0 : l0.length ≤ c0) (h : spec_boMake.f l0 a1_0 a1_1 = some r) :
    Calls Tryz.prog 25 #[.slice A0 l0.length c0, .agg #[.int .i64 a1_0, .int .i64 a1_1]] w fun e w' => ∃ v0_ : Value, e = .returned (v0_) ∧ Kd.R Kd.string 9 w' w.heap.size (fun _ => True) v0_ r ∧ Below w.heap.size w w' := by
  have hu38 := Tryz.underlying38
  have HR0 := Aside0.mk hr0
  have HC0 := Aside0.mk hc0
  clear hr0 hc0
  have HB := Aside0.mk (Below.refl w.heap.size w)
  have HG := Aside0.mk hG
  clear hG
  have H : (if 0 < (l0.length : Int) then (if ((rdOf ByteArray.empty l0 0).size : Int) = 0 then (none) else (if 0 ≤ (wrap64 (Int.tdiv a1_0 ((rdOf ByteArray.empty l0 0).size : Int))) then (if (wrap64 (Int.tdiv a1_0 ((rdOf ByteArray.empty l0 0).size : Int))) < (l0.length : Int) then (if 0 ≤ (Int.tmod a1_0 ((rdOf ByteArray.empty l0 0).size : Int)) then (if (Int.tmod a1_0 ((rdOf ByteArray.empty l0 0).size : Int)) ≤ (wrap64 ((Int.tmod a1_0 ((rdOf ByteArray.empty l0 0).size : Int)) + 1)) then (if (wrap64 ((Int.tmod a1_0 ((rdOf ByteArray.empty l0 0).size : Int)) + 1)) ≤ ((rdOf ByteArray.empty l0 (wrap64 (Int.tdiv a1_0 ((rdOf ByteArray.empty l0 0).size : Int)))).size : Int) then ((spec_l1OwnS.f l0).bind fun t151 => (if (wrap64 (Int.tdiv a1_0 ((rdOf ByteArray.empty l0 0).size : Int))) < (t151.length : Int) then ((spec_liPut.f (rdOf ByteArray.empty t151 (wrap64 (Int.tdiv a1_0 ((rdOf ByteArray.empty l0 0).size : Int)))) (Int.tmod a1_0 ((rdOf ByteArray.empty l0 0).size : Int)) (⟨#[46]⟩ : ByteArray)).bind fun t155 => ((some (t151.set ((wrap64 (Int.tdiv a1_0 ((rdOf ByteArray.empty l0 0).size : Int))) : Int).toNat t155 : List ByteArray)).bind fun y156 => (if 0 ≤ (wrap64 (Int.tdiv a1_1 ((rdOf ByteArray.empty l0 0).size : Int))) then (if (wrap64 (Int.tdiv a1_1 ((rdOf ByteArray.empty l0 0).size : Int))) < (t151.length : Int) then ((spec_liPut.f (rdOf ByteArray.empty y156 (wrap64 (Int.tdiv a1_1 ((rdOf ByteArray.empty l0 0).size : Int)))) (Int.tmod a1_1 ((rdOf ByteArray.empty l0 0).size : Int)) ((rdOf ByteArray.empty l0 (wrap64 (Int.tdiv a1_0 ((rdOf ByteArray.empty l0 0).size : Int)))).extract ((Int.tmod a1_0 ((rdOf ByteArray.empty l0 0).size : Int)) : Int).toNat ((wrap64 ((Int.tmod a1_0 ((rdOf ByteArray.empty l0 0).size : Int)) + 1)) : Int).toNat)).bind fun t158 => (some (y156.set ((wrap64 (Int.tdiv a1_1 ((rdOf ByteArray.empty l0 0).size : Int))) : Int).toNat t158))) else (none)) else (none)))) else (none))) else (none)) else (none)) else (none)) else (none)) else (none))) else (none)) = some r := h
  clear h
  by_cases c3 : 0 < (l0.length : Int)
  · rw [if_pos c3] at H
    have c3b0 : decide (0 < (l0.length : Int)) = true := decide_eq_true c3
    have c3b1 : decide (0 < l0.length) = true := decide_eq_true (by omega)
    clear c3
    by_cases c4 : ((rdOf ByteArray.empty l0 0).size : Int) = 0
    · rw [if_pos c4] at H
      exact absurd H (by simp)
    · rw [if_neg c4] at H
      have c4b0 : (((rdOf ByteArray.empty l0 0).size : Int) == 0) = false := beq_eq_false_iff_ne.mpr c4
      have c4b1 : (((rdOf ByteArray.empty l0 0).size : Int) != 0) = true := bne_iff_ne.mpr c4
      have c4b2 : ¬ ((rdOf ByteArray.empty l0 0) = ByteArray.empty) := fun h_ => c4 (by rw [h_]; rfl)
      obtain ⟨ji5, hji5⟩ : ∃ j_ : Int, (wrap64 (Int.tdiv a1_0 ((rdOf ByteArray.empty l0 0).size : Int))) = j_ := ⟨_, rfl⟩
      replace H : (if 0 ≤ (ji5) then (if (ji5) < (l0.length : Int) then (if 0 ≤ (Int.tmod a1_0 ((rdOf ByteArray.empty l0 0).size : Int)) then (if (Int.tmod a1_0 ((rdOf ByteArray.empty l0 0).size : Int)) ≤ (wrap64 ((Int.tmod a1_0 ((rdOf ByteArray.empty l0 0).size : Int)) + 1)) then (if (wrap64 ((Int.tmod a1_0 ((rdOf ByteArray.empty l0 0).size : Int)) + 1)) ≤ ((rdOf ByteArray.empty l0 (ji5)).size : Int) then ((spec_l1OwnS.f l0).bind fun t151 => (if (ji5) < (t151.length : Int) then ((spec_liPut.f (rdOf ByteArray.empty t151 (ji5)) (Int.tmod a1_0 ((rdOf ByteArray.empty l0 0).size : Int)) (⟨#[46]⟩ : ByteArray)).bind fun t155 => ((some (t151.set ((ji5) : Int).toNat t155 : List ByteArray)).bind fun y156 => (if 0 ≤ (wrap64 (Int.tdiv a1_1 ((rdOf ByteArray.empty l0 0).size : Int))) then (if (wrap64 (Int.tdiv a1_1 ((rdOf ByteArray.empty l0 0).size : Int))) < (t151.length : Int) then ((spec_liPut.f (rdOf ByteArray.empty y156 (wrap64 (Int.tdiv a1_1 ((rdOf ByteArray.empty l0 0).size : Int)))) (Int.tmod a1_1 ((rdOf ByteArray.empty l0 0).size : Int)) ((rdOf ByteArray.empty l0 (ji5)).extract ((Int.tmod a1_0 ((rdOf ByteArray.empty l0 0).size : Int)) : Int).toNat ((wrap64 ((Int.tmod a1_0 ((rdOf ByteArray.empty l0 0).size : Int)) + 1)) : Int).toNat)).bind fun t158 => (some (y156.set ((wrap64 (Int.tdiv a1_1 ((rdOf ByteArray.empty l0 0).size : Int))) : Int).toNat t158))) else (none)) else (none)))) else (none))) else (none)) else (none)) else (none)) else (none)) else (none)) = some r := by first | (rw [hji5] at H; exact H) | (simp only [hji5] at H ⊢; exact H)
      have hji5w : (IntKind.i64.wrap (Int.tdiv a1_0 ((rdOf ByteArray.empty l0 0).size : Int))) = ji5 := (i64_w _).trans hji5
      by_cases c6 : 0 ≤ (ji5)
      · rw [if_pos c6] at H
        have c6b0 : decide (0 ≤ (ji5)) = true := decide_eq_true c6
        clear c6
        by_cases c7 : (ji5) < (l0.length : Int)
        · rw [if_pos c7] at H
          have c7b0 : decide ((ji5) < (l0.length : Int)) = true := decide_eq_true c7
          clear c7
          obtain ⟨ji8, hji8⟩ : ∃ j_ : Int, (Int.tmod a1_0 ((rdOf ByteArray.empty l0 0).size : Int)) = j_ := ⟨_, rfl⟩
          replace H : (if 0 ≤ (ji8) then (if (ji8) ≤ (wrap64 ((ji8) + 1)) then (if (wrap64 ((ji8) + 1)) ≤ ((rdOf ByteArray.empty l0 (ji5)).size : Int) then ((spec_l1OwnS.f l0).bind fun t151 => (if (ji5) < (t151.length : Int) then ((spec_liPut.f (rdOf ByteArray.empty t151 (ji5)) (ji8) (⟨#[46]⟩ : ByteArray)).bind fun t155 => ((some (t151.set ((ji5) : Int).toNat t155 : List ByteArray)).bind fun y156 => (if 0 ≤ (wrap64 (Int.tdiv a1_1 ((rdOf ByteArray.empty l0 0).size : Int))) then (if (wrap64 (Int.tdiv a1_1 ((rdOf ByteArray.empty l0 0).size : Int))) < (t151.length : Int) then ((spec_liPut.f (rdOf ByteArray.empty y156 (wrap64 (Int.tdiv a1_1 ((rdOf ByteArray.empty l0 0).size : Int)))) (Int.tmod a1_1 ((rdOf ByteArray.empty l0 0).size : Int)) ((rdOf ByteArray.empty l0 (ji5)).extract ((ji8) : Int).toNat ((wrap64 ((ji8) + 1)) : Int).toNat)).bind fun t158 => (some (y156.set ((wrap64 (Int.tdiv a1_1 ((rdOf ByteArray.empty l0 0).size : Int))) : Int).toNat t158))) else (none)) else (none)))) else (none))) else (none)) else (none)) else (none)) = some r := by first | (rw [hji8] at H; exact H) | (simp only [hji8] at H ⊢; exact H)
          by_cases c9 : 0 ≤ (ji8)
          · rw [if_pos c9] at H
            have c9b0 := eq_true c9
            have c9b1 : decide (0 ≤ (ji8)) = true := decide_eq_true c9
            clear c9
            by_cases c10 : (ji8) ≤ (wrap64 ((ji8) + 1))
            · rw [if_pos c10] at H
              have c10b0 := eq_true c10
              have c10b1 : decide ((ji8) ≤ (wrap64 ((ji8) + 1))) = true := decide_eq_true c10
              by_cases c11 : (wrap64 ((ji8) + 1)) ≤ ((rdOf ByteArray.empty l0 (ji5)).size : Int)
              · rw [if_pos c11] at H
                have c11b0 := eq_true c11
                have c11b1 : decide ((wrap64 ((ji8) + 1)) ≤ ((rdOf ByteArray.empty l0 (ji5)).size : Int)) = true := decide_eq_true c11
                replace H := Option.bind_eq_some_iff.mp H
                obtain ⟨t151, A120, H⟩ := H
                replace H : (if (ji5) < (t151.length : Int) then ((spec_liPut.f (rdOf ByteArray.empty t151 (ji5)) (ji8) (⟨#[46]⟩ : ByteArray)).bind fun t155 => ((some (t151.set ((ji5) : Int).toNat t155 : List ByteArray)).bind fun y156 => (if 0 ≤ (wrap64 (Int.tdiv a1_1 ((rdOf ByteArray.empty l0 0).size : Int))) then (if (wrap64 (Int.tdiv a1_1 ((rdOf ByteArray.empty l0 0).size : Int))) < (t151.length : Int) then ((spec_liPut.f (rdOf ByteArray.empty y156 (wrap64 (Int.tdiv a1_1 ((rdOf ByteArray.empty l0 0).size : Int)))) (Int.tmod a1_1 ((rdOf ByteArray.empty l0 0).size : Int)) ((rdOf ByteArray.empty l0 (ji5)).extract ((ji8) : Int).toNat ((wrap64 ((ji8) + 1)) : Int).toNat)).bind fun t158 => (some (y156.set ((wrap64 (Int.tdiv a1_1 ((rdOf ByteArray.empty l0 0).size : Int))) : Int).toNat t158))) else (none)) else (none)))) else (none)) = some r := H
                have A12 := Aside0.mk A120
                clear A120
                by_cases c13 : (ji5) < (t151.length : Int)
                · rw [if_pos c13] at H
                  have c13b0 : decide ((ji5) < (t151.length : Int)) = true := decide_eq_true c13
                  clear c13
                  replace H := Option.bind_eq_some_iff.mp H
                  obtain ⟨t155, A140, H⟩ := H
                  replace H : ((some (t151.set ((ji5) : Int).toNat t155 : List ByteArray)).bind fun y156 => (if 0 ≤ (wrap64 (Int.tdiv a1_1 ((rdOf ByteArray.empty l0 0).size : Int))) then (if (wrap64 (Int.tdiv a1_1 ((rdOf ByteArray.empty l0 0).size : Int))) < (t151.length : Int) then ((spec_liPut.f (rdOf ByteArray.empty y156 (wrap64 (Int.tdiv a1_1 ((rdOf ByteArray.empty l0 0).size : Int)))) (Int.tmod a1_1 ((rdOf ByteArray.empty l0 0).size : Int)) ((rdOf ByteArray.empty l0 (ji5)).extract ((ji8) : Int).toNat ((wrap64 ((ji8) + 1)) : Int).toNat)).bind fun t158 => (some (y156.set ((wrap64 (Int.tdiv a1_1 ((rdOf ByteArray.empty l0 0).size : Int))) : Int).toNat t158))) else (none)) else (none))) = some r := H
                  have A14 := Aside0.mk A140
                  clear A140
                  obtain ⟨y156, hy156⟩ : ∃ y_ : List ByteArray, y_ = (t151.set ((ji5) : Int).toNat t155) := ⟨_, rfl⟩
                  replace H : (if 0 ≤ (wrap64 (Int.tdiv a1_1 ((rdOf ByteArray.empty l0 0).size : Int))) then (if (wrap64 (Int.tdiv a1_1 ((rdOf ByteArray.empty l0 0).size : Int))) < (t151.length : Int) then ((spec_liPut.f (rdOf ByteArray.empty y156 (wrap64 (Int.tdiv a1_1 ((rdOf ByteArray.empty l0 0).size : Int)))) (Int.tmod a1_1 ((rdOf ByteArray.empty l0 0).size : Int)) ((rdOf ByteArray.empty l0 (ji5)).extract ((ji8) : Int).toNat ((wrap64 ((ji8) + 1)) : Int).toNat)).bind fun t158 => (some (y156.set ((wrap64 (Int.tdiv a1_1 ((rdOf ByteArray.empty l0 0).size : Int))) : Int).toNat t158))) else (none)) else (none)) = some r := by first | (rw [hy156]; with_reducible exact H) | (have H2_ := (Option.bind_some _ _).symm.trans H; rw [hy156]; with_reducible exact H2_) | (have H2_ := (Option.bind_some _ _).symm.trans H; with_reducible exact H2_) | with_reducible exact H | (rw [hy156]; exact H) | exact H
                  have Ny156 := Aside0.mk hy156
                  clear hy156
                  obtain ⟨ji16, hji16⟩ : ∃ j_ : Int, (wrap64 (Int.tdiv a1_1 ((rdOf ByteArray.empty l0 0).size : Int))) = j_ := ⟨_, rfl⟩
                  replace H : (if 0 ≤ (ji16) then (if (ji16) < (t151.length : Int) then ((spec_liPut.f (rdOf ByteArray.empty y156 (ji16)) (Int.tmod a1_1 ((rdOf ByteArray.empty l0 0).size : Int)) ((rdOf ByteArray.empty l0 (ji5)).extract ((ji8) : Int).toNat ((wrap64 ((ji8) + 1)) : Int).toNat)).bind fun t158 => (some (y156.set ((ji16) : Int).toNat t158))) else (none)) else (none)) = some r := by first | (rw [hji16] at H; exact H) | (simp only [hji16] at H ⊢; exact H)
                  (try rw [hji16] at A12)
                  (try rw [hji16] at A14)
                  have hji16w : (IntKind.i64.wrap (Int.tdiv a1_1 ((rdOf ByteArray.empty l0 0).size : Int))) = ji16 := (i64_w _).trans hji16
                  by_cases c17 : 0 ≤ (ji16)
                  · rw [if_pos c17] at H
                    have c17b0 : decide (0 ≤ (ji16)) = true := decide_eq_true c17
                    clear c17
                    by_cases c18 : (ji16) < (t151.length : Int)
                    · rw [if_pos c18] at H
                      have c18b0 : decide ((ji16) < (t151.length : Int)) = true := decide_eq_true c18
                      clear c18
                      replace H := Option.bind_eq_some_iff.mp H
                      obtain ⟨t158, A190, H⟩ := H
                      replace H : (some (y156.set ((ji16) : Int).toNat t158)) = some r := H
                      have A19 := Aside0.mk A190
                      clear A190
                      obtain ⟨y159, hy159⟩ : ∃ y_ : List ByteArray, y_ = (y156.set ((ji16) : Int).toNat t158) := ⟨_, rfl⟩
                      replace H : (some y159) = some r := by first | (rw [hy159]; with_reducible exact H) | (have H2_ := (Option.bind_some _ _).symm.trans H; rw [hy159]; with_reducible exact H2_) | (have H2_ := (Option.bind_some _ _).symm.trans H; with_reducible exact H2_) | with_reducible exact H | (rw [hy159]; exact H) | exact H
                      have Ny159 := Aside0.mk hy159
                      clear hy159
                      obtain rfl := Option.some.inj H
                      go_enter Tryz.func25, Tryz.ntmps25
                      try go_wp2_with (first | ((with_reducible refine gate_dst (N := 3) rfl ?_); refine box_event ?hg (N := 3) ?hd (cs := #[.int .i64 a1_0, .int .i64 a1_1]) (t := 38) ?hr ?_; (case hd => rfl); (case hg => rfl); (case hr => first | (go_simp; done) | (go_simp; rfl)); intro gb148 hg w21 hbox hb; have n0_ := Aside0.mk (below_step (by repeat (first | (with_reducible first | exact HB.out | apply below_alloc | apply pw_below_drewN | apply below_drew1) | exact HB.out)) hb); have n1_ := Aside0.mk (hbox); have n2_ := Aside0.mk ((by rw [hg]; exact (below_size (by repeat (first | (with_reducible first | exact HB.out | apply below_alloc | apply pw_below_drewN | apply below_drew1) | exact HB.out))) : w.heap.size ≤ gb148)); have n3_ := Aside0.mk ((by rw [hg]; exact (below_size (by repeat (first | (with_reducible first | exact HB.out | apply below_alloc | apply pw_below_drewN | apply below_drew1) | exact HB.out))) : w.heap.size ≤ gb148)); clear HB; have HB := n0_; have BK148 := n1_; have GW148 := n2_; have GE148 := n3_; clear n0_ n1_ n2_ n3_; clear hb hbox hg; have p149 : 0 ≤ (0 : Int) := (by omega); have q149 : 0 < (l0.length : Int) := of_decide_eq_true (by first | (with_reducible assumption) | assumption); obtain ⟨ad149, e149, hx149_0⟩ := Kd.at_string HR0.out 0 p149 q149; cases e149; have qi149 : (0 < l0.length) = True := eq_true (by omega); (try rw [show ((0 : Int)).toNat = 0 from rfl] at hx149_0); (try rw [Addr.add_zero'] at hx149_0); replace hx149_0 := (HB.out.cell (World.block_lt_of_cell? w _ hx149_0)).trans hx149_0; replace p149 := eq_true p149; replace q149 := eq_true q149))
                      have n0_ := Aside0.mk (blk_drew BK148.out)
                      have n1_ := Aside0.mk (below_drew1 HB.out)
                      clear BK148
                      clear HB
                      have BK148 := n0_
                      have HB := n1_
                      clear n0_ n1_
                      have p150 : 0 ≤ ((ji5) : Int) := of_decide_eq_true (by first | (with_reducible assumption) | assumption)
                      have q150 : (ji5) < (l0.length : Int) := of_decide_eq_true (by first | (with_reducible assumption) | assumption)
                      obtain ⟨ad150, e150, hx150_0⟩ := Kd.at_string HR0.out (ji5) p150 q150
                      have hw150_0 := hx150_0
                      obtain rfl : ad149 = ad150 := (by injection e150)
                      replace hx150_0 := (HB.out.cell (World.block_lt_of_cell? w _ hx150_0)).trans hx150_0
                      replace p150 := eq_true p150
                      replace q150 := eq_true q150
                      refine start_ (n := 18) (S := fun w' => w'.cell? ⟨gb148, 0, none⟩ = some (.int .i64 a1_0) ∧ w'.cell? ⟨gb148, 1, none⟩ = some (.int .i64 a1_1) ∧ w'.cell? (ad149.add ((ji5)).toNat) = some (.string (rdOf ByteArray.empty l0 (ji5)))) (ds := []) #[false, false, false, false, false, false, false, false, false, false, false, false, false, false, false, false, false, false] (by kernel_rfl) rfl rfl ⟨(blk_cell BK148.out 0).trans rfl, (blk_cell BK148.out 1).trans rfl, ((HB.out.cell (World.block_lt_of_cell? w _ hw150_0)).trans hw150_0)⟩ (fun hHeld => ?_); refine with_tabW spec_boMake.tab2 spec_boMake.bits2 (fun HT_ HW_ => ?_)
                      generalize w21.drew = w22 at BK148 HB hx150_0 hHeld ⊢
                      refine pure_ (i := 0) (N := some 12) (v := ?_) (a' := ?_) #[true, false, false, false, false, false, false, false, false, false, false, false, false, false, false, false, false, false] rfl rfl (any_of HT_.out (by kernel_rfl)) (fun _ _ _ h => h) (Or.inl ⟨by rfl, ?_⟩) ?_ ?_
                      rotate_left
                      · intro w'
                        go_simp
                        with_reducible rfl
                      rotate_left
                      · simp only [Act.put, List.setIfInBounds_toArray, List.set_cons_zero, List.set_cons_succ, i64_w, i32_w]
                        rfl
                      refine pure_ (i := 1) (N := some 13) (v := ?_) (a' := ?_) #[true, true, false, false, false, false, false, false, false, false, false, false, false, false, false, false, false, false] rfl rfl (any_of HT_.out (by kernel_rfl)) (fun _ _ _ h => h) (Or.inl ⟨by rfl, ?_⟩) ?_ ?_
                      rotate_left
                      · intro w'
                        go_simp
                        with_reducible rfl
                      rotate_left
                      · simp only [Act.put, List.setIfInBounds_toArray, List.set_cons_zero, List.set_cons_succ, i64_w, i32_w]
                        rfl
                      refine pure_ (i := 3) (N := some 15) (v := ?_) (a' := ?_) #[true, true, false, true, false, false, false, false, false, false, false, false, false, false, false, false, false, false] rfl rfl (any_of HT_.out (by kernel_rfl)) (fun _ _ _ h => h) (Or.inl ⟨by rfl, ?_⟩) ?_ ?_
                      rotate_left
                      · intro w'
                        go_simp
                        with_reducible rfl
                      rotate_left
                      · simp only [Act.put, List.setIfInBounds_toArray, List.set_cons_zero, List.set_cons_succ, i64_w, i32_w]
                        rfl
                      refine pure_ (i := 7) (N := some 19) (v := ?_) (a' := ?_) #[true, true, false, true, false, false, false, true, false, false, false, false, false, false, false, false, false, false] rfl rfl (any_of HT_.out (by kernel_rfl)) (fun _ _ _ h => h) (Or.inl ⟨by rfl, ?_⟩) ?_ ?_
                      rotate_left
                      · intro w'
                        go_simp
                        with_reducible rfl
                      rotate_left
                      · simp only [Act.put, List.setIfInBounds_toArray, List.set_cons_zero, List.set_cons_succ, i64_w, i32_w]
                        rfl
                      refine pure_ (i := 9) (N := some 21) (v := ?_) (a' := ?_) #[true, true, false, true, false, false, false, true, false, true, false, false, false, false, false, false, false, false] rfl rfl (any_of HT_.out (by kernel_rfl)) (fun _ _ _ h => h) (Or.inl ⟨by rfl, ?_⟩) ?_ ?_
                      rotate_left
                      · intro w'
                        go_simp
                        with_reducible rfl
                      rotate_left
                      · simp only [Act.put, List.setIfInBounds_toArray, List.set_cons_zero, List.set_cons_succ, i64_w, i32_w]
                        rfl
                      refine pure_ (i := 11) (N := some 23) (v := ?_) (a' := ?_) #[true, true, false, true, false, false, false, true, false, true, false, true, false, false, false, false, false, false] rfl rfl (any_of HT_.out (by kernel_rfl)) (fun _ _ _ h => h) (Or.inl ⟨by rfl, ?_⟩) ?_ ?_
                      rotate_left
                      · intro w'
                        go_simp
                        with_reducible rfl
                      rotate_left
                      · simp only [Act.put, List.setIfInBounds_toArray, List.set_cons_zero, List.set_cons_succ, i64_w, i32_w]
                        rfl
                      refine pure_ (i := 13) (N := some 25) (v := ?_) (a' := ?_) #[true, true, false, true, false, false, false, true, false, true, false, true, false, true, false, false, false, false] rfl rfl (any_of HT_.out (by kernel_rfl)) (fun _ _ _ h => h) (Or.inl ⟨by rfl, ?_⟩) ?_ ?_
                      rotate_left
                      · intro w'
                        go_simp
                        with_reducible rfl
                      rotate_left
                      · simp only [Act.put, List.setIfInBounds_toArray, List.set_cons_zero, List.set_cons_succ, i64_w, i32_w]
                        rfl
                      refine take_ (i := 2) (N := some 14) (v := ?_) (a' := ?_) #[true, true, true, true, false, false, false, true, false, true, false, true, false, true, false, false, false, false] rfl rfl (take_ofW HT_.out HW_.out (by kernel_rfl)) (fun _ _ _ h => h) (Or.inl ⟨by rfl, ?_⟩) hHeld ?_ ?_
                      rotate_left
                      · rintro w' ⟨s0, s1, s2⟩
                        go_simp
                        with_reducible rfl
                      rotate_left
                      · simp only [Act.put, List.setIfInBounds_toArray, List.set_cons_zero, List.set_cons_succ, i64_w, i32_w]
                        rfl
                      refine pure_ (i := 4) (N := some 16) (v := ?_) (a' := ?_) #[true, true, true, true, true, false, false, true, false, true, false, true, false, true, false, false, false, false] rfl rfl (any_of HT_.out (by kernel_rfl)) (fun _ _ _ h => h) (Or.inl ⟨by rfl, ?_⟩) ?_ ?_
                      rotate_left
                      · intro w'
                        go_simp
                        with_reducible rfl
                      rotate_left
                      · simp only [Act.put, List.setIfInBounds_toArray, List.set_cons_zero, List.set_cons_succ, i64_w, i32_w]
                        rfl
                      refine pure_ (i := 5) (N := some 17) (v := ?_) (a' := ?_) #[true, true, true, true, true, true, false, true, false, true, false, true, false, true, false, false, false, false] rfl rfl (any_of HT_.out (by kernel_rfl)) (fun _ _ _ h => h) (Or.inl ⟨by rfl, ?_⟩) ?_ ?_
                      rotate_left
                      · intro w'
                        go_simp
                        with_reducible rfl
                      rotate_left
                      · simp only [Act.put, List.setIfInBounds_toArray, List.set_cons_zero, List.set_cons_succ, i64_w, i32_w]
                        rfl
                      refine take_ (i := 6) (N := some 18) (v := ?_) (a' := ?_) #[true, true, true, true, true, true, true, true, false, true, false, true, false, true, false, false, false, false] rfl rfl (take_ofW HT_.out HW_.out (by kernel_rfl)) (fun _ _ _ h => h) (Or.inl ⟨by rfl, ?_⟩) hHeld ?_ ?_
                      rotate_left
                      · rintro w' ⟨s0, s1, s2⟩
                        go_simp
                        with_reducible rfl
                      rotate_left
                      · simp only [Act.put, List.setIfInBounds_toArray, List.set_cons_zero, List.set_cons_succ, i64_w, i32_w]
                        rfl
                      refine take_ (i := 8) (N := some 20) (v := ?_) (a' := ?_) #[true, true, true, true, true, true, true, true, true, true, false, true, false, true, false, false, false, false] rfl rfl (take_ofW HT_.out HW_.out (by kernel_rfl)) (fun _ _ _ h => h) (Or.inl ⟨by rfl, ?_⟩) hHeld ?_ ?_
                      rotate_left
                      · rintro w' ⟨s0, s1, s2⟩
                        go_simp
                        with_reducible rfl
                      rotate_left
                      · simp only [Act.put, List.setIfInBounds_toArray, List.set_cons_zero, List.set_cons_succ, i64_w, i32_w]
                        rfl
                      refine pure_ (i := 10) (N := some 22) (v := ?_) (a' := ?_) #[true, true, true, true, true, true, true, true, true, true, true, true, false, true, false, false, false, false] rfl rfl (any_of HT_.out (by kernel_rfl)) (fun _ _ _ h => h) (Or.inl ⟨by rfl, ?_⟩) ?_ ?_
                      rotate_left
                      · intro w'
                        go_simp
                        with_reducible rfl
                      rotate_left
                      · simp only [Act.put, List.setIfInBounds_toArray, List.set_cons_zero, List.set_cons_succ, i64_w, i32_w]
                        rfl
                      refine take_ (i := 12) (N := some 24) (v := ?_) (a' := ?_) #[true, true, true, true, true, true, true, true, true, true, true, true, true, true, false, false, false, false] rfl rfl (take_ofW HT_.out HW_.out (by kernel_rfl)) (fun _ _ _ h => h) (Or.inl ⟨by rfl, ?_⟩) hHeld ?_ ?_
                      rotate_left
                      · rintro w' ⟨s0, s1, s2⟩
                        go_simp
                        with_reducible rfl
                      rotate_left
                      · simp only [Act.put, List.setIfInBounds_toArray, List.set_cons_zero, List.set_cons_succ, i64_w, i32_w]
                        rfl
                      refine pure_ (i := 14) (N := some 26) (v := ?_) (a' := ?_) #[true, true, true, true, true, true, true, true, true, true, true, true, true, true, true, false, false, false] rfl rfl (any_of HT_.out (by kernel_rfl)) (fun _ _ _ h => h) (Or.inl ⟨by rfl, ?_⟩) ?_ ?_
                      rotate_left
                      · intro w'
                        go_simp
                        with_reducible rfl
                      rotate_left
                      · simp only [Act.put, List.setIfInBounds_toArray, List.set_cons_zero, List.set_cons_succ, i64_w, i32_w]
                        rfl
                      refine pure_ (i := 15) (N := some 27) (v := ?_) (a' := ?_) #[true, true, true, true, true, true, true, true, true, true, true, true, true, true, true, true, false, false] rfl rfl (any_of HT_.out (by kernel_rfl)) (fun _ _ _ h => h) (Or.inl ⟨by rfl, ?_⟩) ?_ ?_
                      rotate_left
                      · intro w'
                        go_simp
                        with_reducible rfl
                      rotate_left
                      · simp only [Act.put, List.setIfInBounds_toArray, List.set_cons_zero, List.set_cons_succ, i64_w, i32_w]
                        rfl
                      refine pure_ (i := 16) (N := some 28) (v := ?_) (a' := ?_) #[true, true, true, true, true, true, true, true, true, true, true, true, true, true, true, true, true, false] rfl rfl (any_of HT_.out (by kernel_rfl)) (fun _ _ _ h => h) (Or.inl ⟨by rfl, ?_⟩) ?_ ?_
                      rotate_left
                      · intro w'
                        go_simp
                        with_reducible rfl
                      rotate_left
                      · simp only [Act.put, List.setIfInBounds_toArray, List.set_cons_zero, List.set_cons_succ, i64_w, i32_w]
                        rfl
                      refine pure_ (i := 17) (N := some 6) (v := ?_) (a' := ?_) #[true, true, true, true, true, true, true, true, true, true, true, true, true, true, true, true, true, true] rfl rfl (any_of HT_.out (by kernel_rfl)) (fun _ _ _ h => h) (Or.inl ⟨by rfl, ?_⟩) ?_ ?_
                      rotate_left
                      · intro w'
                        go_simp
                        with_reducible rfl
                      rotate_left
                      · simp only [Act.put, List.setIfInBounds_toArray, List.set_cons_zero, List.set_cons_succ, i64_w, i32_w]
                        rfl
                      refine done_ (done_of HT_.out (by kernel_rfl)) ?_
                      try go_wp2_with (first | ((with_reducible refine gate_callee (f := 38) rfl ?_); refine goesL_ (some 30) rfl rfl Tryz.func38 (by kernel_rfl) rfl #[.slice (some ad149) l0.length c0] rfl (by (try simp only [List.map_toArray, List.map_cons, List.map_nil]); first | done | rfl | (simp only [List.length_drop, List.length_take]; rfl)) ?_; (with_reducible refine (spec_l1OwnS.calls _ _ l0 t151 _ (by first | with_reducible exact HG.out | ((repeat (first | with_reducible exact HG.out | with_reducible apply GW.drewN_ | with_reducible apply GW.drew_)); done) | (apply GW.below_ HG.out; (repeat (first | (with_reducible first | exact HB.out | apply below_alloc | apply pw_below_drewN | apply below_drew1 | refine below_set ?_ (Aside0.out (by assumption))) | exact HB.out)); done)) ?side1 ?side2 A12.out).mono ?_); (case side1 => repeat (first | exact (Kd.C_below HR0.out HB.out) | (with_reducible refine Kd.C_alloc ?_ _) | (with_reducible refine Kd.C_drewN ?_ _) | (with_reducible refine Kd.C_drew ?_))); (case side2 => exact HC0.out); rintro e w23 ⟨v152, rfl, ho0, hb⟩; refine ⟨_, rfl, ?_⟩; have n0_ := Aside0.mk (Kd.R_lower ho0 (below_size (by repeat (first | (with_reducible first | exact HB.out | apply below_alloc | apply pw_below_drewN | apply below_drew1 | refine below_set ?_ GE148.out) | exact HB.out)))); have n1_ := Aside0.mk (blk_below (g := gb148) (o := .cells #[.int .i64 a1_0, .int .i64 a1_1] 38 (0, 0)) (by (with_reducible repeat (first | refine blk_drewN ?_ _ | refine blk_drew ?_ | refine blk_alloc ?_ _)); exact BK148.out) hb); have n2_ := Aside0.mk (below_step (by repeat (first | (with_reducible first | exact HB.out | apply below_alloc | apply pw_below_drewN | apply below_drew1 | refine below_set ?_ GE148.out) | exact HB.out)) hb); clear BK148; clear HB; have HO153 := n0_; have BK148 := n1_; have HB := n2_; clear n0_ n1_ n2_; (try clear hb); (try clear hb2); (try clear hk); (try clear hi); (try clear ho0)))
                      have n0_ := Aside0.mk (Kd.R_drew HO153.out)
                      have n1_ := Aside0.mk (blk_drew BK148.out)
                      have n2_ := Aside0.mk (below_drew1 HB.out)
                      clear HO153
                      clear BK148
                      clear HB
                      have HO153 := n0_
                      have BK148 := n1_
                      have HB := n2_
                      clear n0_ n1_ n2_
                      obtain ⟨Ao25, co25, eo25⟩ := Kd.R_slice HO153.out
                      (first | subst eo25 | (injection eo25 with f1_ f2_ f3_; have f4_ := f1_.symm; have f5_ := f3_.symm; clear f1_ f2_ f3_; subst f4_; subst f5_))
                      have p154 : 0 ≤ ((ji5) : Int) := of_decide_eq_true (by first | (with_reducible assumption) | assumption)
                      have q154 : (ji5) < (t151.length : Int) := of_decide_eq_true (by first | (with_reducible assumption) | assumption)
                      obtain ⟨ad154, e154, hx154_0⟩ := Kd.at_string (Kd.R_reads' HO153.out).2.2 (ji5) p154 q154
                      cases e154
                      replace p154 := eq_true p154
                      replace q154 := eq_true q154
                      refine start_ (n := 19) (S := fun w' => w'.cell? ⟨gb148, 0, none⟩ = some (.int .i64 a1_0) ∧ w'.cell? ⟨gb148, 1, none⟩ = some (.int .i64 a1_1) ∧ w'.cell? (ad154.add ((ji5)).toNat) = some (.string (rdOf ByteArray.empty t151 (ji5)))) (ds := [18]) #[false, false, false, false, false, false, false, false, false, false, false, false, false, false, false, false, false, false, false] (by kernel_rfl) rfl rfl ⟨(blk_cell BK148.out 0).trans rfl, (blk_cell BK148.out 1).trans rfl, hx154_0⟩ (fun hHeld => ?_); refine with_tabW spec_boMake.tab4 spec_boMake.bits4 (fun HT_ HW_ => ?_)
                      generalize w23.drew = w24 at HO153 BK148 HB hx154_0 hHeld ⊢
                      refine pure_ (i := 0) (N := some 31) (v := ?_) (a' := ?_) #[true, false, false, false, false, false, false, false, false, false, false, false, false, false, false, false, false, false, false] rfl rfl (any_of HT_.out (by kernel_rfl)) (fun _ _ _ h => h) (Or.inl ⟨by rfl, ?_⟩) ?_ ?_
                      rotate_left
                      · intro w'
                        go_simp
                        with_reducible rfl
                      rotate_left
                      · simp only [Act.put, List.setIfInBounds_toArray, List.set_cons_zero, List.set_cons_succ, i64_w, i32_w]
                        rfl
                      refine pure_ (i := 1) (N := some 32) (v := ?_) (a' := ?_) #[true, true, false, false, false, false, false, false, false, false, false, false, false, false, false, false, false, false, false] rfl rfl (any_of HT_.out (by kernel_rfl)) (fun _ _ _ h => h) (Or.inl ⟨by rfl, ?_⟩) ?_ ?_
                      rotate_left
                      · intro w'
                        go_simp
                        with_reducible rfl
                      rotate_left
                      · simp only [Act.put, List.setIfInBounds_toArray, List.set_cons_zero, List.set_cons_succ, i64_w, i32_w]
                        rfl
                      refine pure_ (i := 3) (N := some 34) (v := ?_) (a' := ?_) #[true, true, false, true, false, false, false, false, false, false, false, false, false, false, false, false, false, false, false] rfl rfl (any_of HT_.out (by kernel_rfl)) (fun _ _ _ h => h) (Or.inl ⟨by rfl, ?_⟩) ?_ ?_
                      rotate_left
                      · intro w'
                        go_simp
                        with_reducible rfl
                      rotate_left
                      · simp only [Act.put, List.setIfInBounds_toArray, List.set_cons_zero, List.set_cons_succ, i64_w, i32_w]
                        rfl
                      refine pure_ (i := 5) (N := some 36) (v := ?_) (a' := ?_) #[true, true, false, true, false, true, false, false, false, false, false, false, false, false, false, false, false, false, false] rfl rfl (any_of HT_.out (by kernel_rfl)) (fun _ _ _ h => h) (Or.inl ⟨by rfl, ?_⟩) ?_ ?_
                      rotate_left
                      · intro w'
                        go_simp
                        with_reducible rfl
                      rotate_left
                      · simp only [Act.put, List.setIfInBounds_toArray, List.set_cons_zero, List.set_cons_succ, i64_w, i32_w]
                        rfl
                      refine pure_ (i := 6) (N := some 37) (v := ?_) (a' := ?_) #[true, true, false, true, false, true, true, false, false, false, false, false, false, false, false, false, false, false, false] rfl rfl (any_of HT_.out (by kernel_rfl)) (fun _ _ _ h => h) (Or.inl ⟨by rfl, ?_⟩) ?_ ?_
                      rotate_left
                      · intro w'
                        go_simp
                        with_reducible rfl
                      rotate_left
                      · simp only [Act.put, List.setIfInBounds_toArray, List.set_cons_zero, List.set_cons_succ, i64_w, i32_w]
                        rfl
                      refine pure_ (i := 8) (N := some 39) (v := ?_) (a' := ?_) #[true, true, false, true, false, true, true, false, true, false, false, false, false, false, false, false, false, false, false] rfl rfl (any_of HT_.out (by kernel_rfl)) (fun _ _ _ h => h) (Or.inl ⟨by rfl, ?_⟩) ?_ ?_
                      rotate_left
                      · intro w'
                        go_simp
                        with_reducible rfl
                      rotate_left
                      · simp only [Act.put, List.setIfInBounds_toArray, List.set_cons_zero, List.set_cons_succ, i64_w, i32_w]
                        rfl
                      refine pure_ (i := 12) (N := some 43) (v := ?_) (a' := ?_) #[true, true, false, true, false, true, true, false, true, false, false, false, true, false, false, false, false, false, false] rfl rfl (any_of HT_.out (by kernel_rfl)) (fun _ _ _ h => h) (Or.inl ⟨by rfl, ?_⟩) ?_ ?_
                      rotate_left
                      · intro w'
                        go_simp
                        with_reducible rfl
                      rotate_left
                      · simp only [Act.put, List.setIfInBounds_toArray, List.set_cons_zero, List.set_cons_succ, i64_w, i32_w]
                        rfl
                      refine pure_ (i := 14) (N := some 45) (v := ?_) (a' := ?_) #[true, true, false, true, false, true, true, false, true, false, false, false, true, false, true, false, false, false, false] rfl rfl (any_of HT_.out (by kernel_rfl)) (fun _ _ _ h => h) (Or.inl ⟨by rfl, ?_⟩) ?_ ?_
                      rotate_left
                      · intro w'
                        go_simp
                        with_reducible rfl
                      rotate_left
                      · simp only [Act.put, List.setIfInBounds_toArray, List.set_cons_zero, List.set_cons_succ, i64_w, i32_w]
                        rfl
                      refine take_ (i := 2) (N := some 33) (v := ?_) (a' := ?_) #[true, true, true, true, false, true, true, false, true, false, false, false, true, false, true, false, false, false, false] rfl rfl (take_ofW HT_.out HW_.out (by kernel_rfl)) (fun _ _ _ h => h) (Or.inl ⟨by rfl, ?_⟩) hHeld ?_ ?_
                      rotate_left
                      · rintro w' ⟨s0, s1, s2⟩
                        go_simp
                        with_reducible rfl
                      rotate_left
                      · simp only [Act.put, List.setIfInBounds_toArray, List.set_cons_zero, List.set_cons_succ, i64_w, i32_w]
                        rfl
                      refine pure_ (i := 4) (N := some 35) (v := ?_) (a' := ?_) #[true, true, true, true, true, true, true, false, true, false, false, false, true, false, true, false, false, false, false] rfl rfl (any_of HT_.out (by kernel_rfl)) (fun _ _ _ h => h) (Or.inl ⟨by rfl, ?_⟩) ?_ ?_
                      rotate_left
                      · intro w'
                        go_simp
                        with_reducible rfl
                      rotate_left
                      · simp only [Act.put, List.setIfInBounds_toArray, List.set_cons_zero, List.set_cons_succ, i64_w, i32_w]
                        rfl
                      refine take_ (i := 7) (N := some 38) (v := ?_) (a' := ?_) #[true, true, true, true, true, true, true, true, true, false, false, false, true, false, true, false, false, false, false] rfl rfl (take_ofW HT_.out HW_.out (by kernel_rfl)) (fun _ _ _ h => h) (Or.inl ⟨by rfl, ?_⟩) hHeld ?_ ?_
                      rotate_left
                      · rintro w' ⟨s0, s1, s2⟩
                        go_simp
                        with_reducible rfl
                      rotate_left
                      · simp only [Act.put, List.setIfInBounds_toArray, List.set_cons_zero, List.set_cons_succ, i64_w, i32_w]
                        rfl
                      refine pure_ (i := 9) (N := some 40) (v := ?_) (a' := ?_) #[true, true, true, true, true, true, true, true, true, true, false, false, true, false, true, false, false, false, false] rfl rfl (any_of HT_.out (by kernel_rfl)) (fun _ _ _ h => h) (Or.inl ⟨by rfl, ?_⟩) ?_ ?_
                      rotate_left
                      · intro w'
                        go_simp
                        with_reducible rfl
                      rotate_left
                      · simp only [Act.put, List.setIfInBounds_toArray, List.set_cons_zero, List.set_cons_succ, i64_w, i32_w]
                        rfl
                      refine pure_ (i := 10) (N := some 41) (v := ?_) (a' := ?_) #[true, true, true, true, true, true, true, true, true, true, true, false, true, false, true, false, false, false, false] rfl rfl (any_of HT_.out (by kernel_rfl)) (fun _ _ _ h => h) (Or.inl ⟨by rfl, ?_⟩) ?_ ?_
                      rotate_left
                      · intro w'
                        go_simp
                        with_reducible rfl
                      rotate_left
                      · simp only [Act.put, List.setIfInBounds_toArray, List.set_cons_zero, List.set_cons_succ, i64_w, i32_w]
                        rfl
                      refine take_ (i := 11) (N := some 42) (v := ?_) (a' := ?_) #[true, true, true, true, true, true, true, true, true, true, true, true, true, false, true, false, false, false, false] rfl rfl (take_ofW HT_.out HW_.out (by kernel_rfl)) (fun _ _ _ h => h) (Or.inl ⟨by rfl, ?_⟩) hHeld ?_ ?_
                      rotate_left
                      · rintro w' ⟨s0, s1, s2⟩
                        go_simp
                        with_reducible rfl
                      rotate_left
                      · simp only [Act.put, List.setIfInBounds_toArray, List.set_cons_zero, List.set_cons_succ, i64_w, i32_w]
                        rfl
                      refine take_ (i := 13) (N := some 44) (v := ?_) (a' := ?_) #[true, true, true, true, true, true, true, true, true, true, true, true, true, true, true, false, false, false, false] rfl rfl (take_ofW HT_.out HW_.out (by kernel_rfl)) (fun _ _ _ h => h) (Or.inl ⟨by rfl, ?_⟩) hHeld ?_ ?_
                      rotate_left
                      · rintro w' ⟨s0, s1, s2⟩
                        go_simp
                        with_reducible rfl
                      rotate_left
                      · simp only [Act.put, List.setIfInBounds_toArray, List.set_cons_zero, List.set_cons_succ, i64_w, i32_w]
                        rfl
                      refine pure_ (i := 15) (N := some 46) (v := ?_) (a' := ?_) #[true, true, true, true, true, true, true, true, true, true, true, true, true, true, true, true, false, false, false] rfl rfl (any_of HT_.out (by kernel_rfl)) (fun _ _ _ h => h) (Or.inl ⟨by rfl, ?_⟩) ?_ ?_
                      rotate_left
                      · intro w'
                        go_simp
                        with_reducible rfl
                      rotate_left
                      · simp only [Act.put, List.setIfInBounds_toArray, List.set_cons_zero, List.set_cons_succ, i64_w, i32_w]
                        rfl
                      refine one_ (i := 16) (N := some 47) #[true, true, true, true, true, true, true, true, true, true, true, true, true, true, true, true, true, false, false] rfl rfl (one_of HT_.out (by kernel_rfl)) (by decide) (fun K hK => ?_)
                      refine goes_ Tryz.func39 (by kernel_rfl) rfl #[.string (rdOf ByteArray.empty t151 (ji5)), .int .i64 ji8, .string (⟨#[46]⟩ : ByteArray)] (by rfl) rfl rfl (by (try simp only [List.map_toArray, List.map_cons, List.map_nil]); first | done | (simp only [hji5, hji8]; rfl) | rfl | (simp only [List.length_drop, List.length_take]; rfl)) ?_
                      with_reducible refine (spec_liPut.calls (rdOf ByteArray.empty t151 (ji5)) ji8 (⟨#[46]⟩ : ByteArray) t155 _ (by first | with_reducible exact HG.out | ((repeat (first | with_reducible exact HG.out | with_reducible apply GW.drewN_ | with_reducible apply GW.drew_)); done) | (apply GW.below_ HG.out; (repeat (first | (with_reducible first | exact HB.out | apply below_alloc | apply pw_below_drewN | apply below_drew1 | refine below_set ?_ (Aside0.out (by assumption))) | exact HB.out)); done)) A14.out).mono ?_
                      rintro e w' ⟨rfl, ⟨nd, rfl⟩⟩
                      refine ⟨_, rfl, ?_⟩
                      have p15 : 0 ≤ ((ji5) : Int) := of_decide_eq_true (by first | (with_reducible assumption) | assumption)
                      have q15 : ((ji5) : Int) < ((t151.length : Int) : Int) := of_decide_eq_true (by first | (with_reducible assumption) | assumption)
                      obtain ⟨go15, co15, eo15, gb15, gl15, cl15, HG15⟩ := Kd.R_form HO153.out (by omega)
                      (first | cases eo15 | (injection eo15 with ea_ en_ ec_; (first | subst ea_ | (injection ea_ with ea_; subst ea_)); subst ec_; clear en_))
                      have GB15 := Aside0.mk gb15
                      have GG15 := Aside0.mk HG15
                      clear gb15 gl15 HG15
                      (first | simp only [add_plain] at hx154_0 | skip)
                      obtain ⟨hx15_0, hf15_0⟩ := Kd.R_celln (⟨#[]⟩ : ByteArray) HO153.out ((ji5) : Int) p15 q15
                      replace p15 := eq_true p15
                      replace q15 := eq_true q15
                      have HP26 := Kd.R_putn HO153.out ((ji5) : Int) t155
                      rw [← Ny156.out] at HP26
                      have HQ26 := Aside0.mk HP26
                      clear HP26
                      refine hK.out _ _ ⟨(blk_cell BK148.out 0).trans rfl, (blk_cell BK148.out 1).trans rfl, hHeld.2.2⟩ (fun hHeld => ?_)
                      clear hK K
                      refine norm_ (a' := ?_) ?_ ?_
                      rotate_left
                      · show Act.put _ (some 47) _ = _
                        simp only [Act.put, List.setIfInBounds_toArray, List.set_cons_zero, List.set_cons_succ, i64_w, i32_w]
                        rfl
                      refine pure_ (i := 17) (N := some 48) (v := ?_) (a' := ?_) #[true, true, true, true, true, true, true, true, true, true, true, true, true, true, true, true, true, true, false] rfl rfl (any_of HT_.out (by kernel_rfl)) (fun _ _ _ h => h) (Or.inl ⟨by rfl, ?_⟩) ?_ ?_
                      rotate_left
                      · intro w'
                        go_simp
                        with_reducible rfl
                      rotate_left
                      · simp only [Act.put, List.setIfInBounds_toArray, List.set_cons_zero, List.set_cons_succ, i64_w, i32_w]
                        rfl
                      refine last_ (i := 18) (N := none) #[true, true, true, true, true, true, true, true, true, true, true, true, true, true, true, true, true, true, true] rfl rfl (one_of HT_.out (by kernel_rfl)) (by decide) (fun K hK => ?_)
                      refine skip_ (w1 := ?_) (by rfl) rfl ?_ ?_
                      rotate_left
                      · go_simp
                        rfl
                      refine hK.out _ _ ?_
                      clear hK K
                      refine done_ (done_of HT_.out (by kernel_rfl)) ?_
                      try go_wp2
                      have n0_ : Aside0 (Kd.R Kd.string 9 (w24.setCell ⟨go15, ((ji5) : Int).toNat, none⟩ (.string t155)) w.heap.size (fun _ => True) (.slice (some ⟨go15, 0, none⟩) t151.length co25) y156) := ⟨by (with_reducible repeat (first | apply Kd.R_alloc | apply Kd.R_drewN | apply Kd.R_drew)); exact HQ26.out⟩
                      have n1_ : Aside0 ((w24.setCell ⟨go15, ((ji5) : Int).toNat, none⟩ (.string t155)).heap[gb148]? = some (.cells #[.int .i64 a1_0, .int .i64 a1_1] 38 (0, 0))) := ⟨by (with_reducible repeat (first | refine blk_drewN ?_ _ | refine blk_drew ?_ | refine blk_alloc ?_ _)); refine blk_far ?_ (by have h_ := Kd.R_ne HO153.out BK148.out (by decide); intro e_; exact h_ (by rw [e_]; rfl)) _; (with_reducible repeat (first | refine blk_drewN ?_ _ | refine blk_drew ?_ | refine blk_alloc ?_ _)); exact BK148.out⟩
                      have n2_ : Aside0 (Below w.heap.size w (w24.setCell ⟨go15, ((ji5) : Int).toNat, none⟩ (.string t155))) := ⟨by repeat (first | (with_reducible first | exact HB.out | apply below_alloc | apply pw_below_drewN | apply below_drew1 | refine below_set ?_ GB15.out | refine below_set ?_ GE148.out) | exact HB.out)⟩
                      (try clear HO153)
                      (try clear BK148)
                      (try clear HB)
                      (try simp only [hw_setCell_drewN])
                      generalize (w24.setCell ⟨go15, ((ji5) : Int).toNat, none⟩ (.string t155)) = w27 at n0_ n1_ n2_ ⊢
                      have HO153 := n0_
                      have BK148 := n1_
                      have HB := n2_
                      clear n0_ n1_ n2_
                      (try (rw [drewN_self w27]; generalize hq_ : World.drewN w27 _ = w27; have n0_ : Aside0 (Kd.R Kd.string 9 w27 w.heap.size (fun _ => True) (.slice (some ⟨go15, 0, none⟩) t151.length co25) y156) := ⟨by rw [← hq_]; exact (by (with_reducible repeat (first | apply Kd.R_alloc | apply Kd.R_drewN | apply Kd.R_drew)); exact HO153.out)⟩; have n1_ : Aside0 (w27.heap[gb148]? = some (.cells #[.int .i64 a1_0, .int .i64 a1_1] 38 (0, 0))) := ⟨by rw [← hq_]; exact (by (with_reducible repeat (first | refine blk_drewN ?_ _ | refine blk_drew ?_ | refine blk_alloc ?_ _)); exact BK148.out)⟩; have n2_ : Aside0 (Below w.heap.size w w27) := ⟨by rw [← hq_]; exact (by repeat (first | (with_reducible first | exact HB.out | apply below_alloc | apply pw_below_drewN | apply below_drew1 | refine below_set ?_ GE148.out) | exact HB.out))⟩; clear HO153 BK148 HB hq_; have HO153 := n0_; have BK148 := n1_; have HB := n2_; clear n0_ n1_ n2_))
                      have n0_ := Aside0.mk (Kd.R_drew HO153.out)
                      have n1_ := Aside0.mk (blk_drew BK148.out)
                      have n2_ := Aside0.mk (below_drew1 HB.out)
                      clear HO153
                      clear BK148
                      clear HB
                      have HO153 := n0_
                      have BK148 := n1_
                      have HB := n2_
                      clear n0_ n1_ n2_
                      have p157 : 0 ≤ ((ji16) : Int) := of_decide_eq_true (by first | (with_reducible assumption) | assumption)
                      have q157 : (ji16) < (y156.length : Int) := (by have h_ : ((ji16) : Int) < ((t151.length : Int) : Int) := of_decide_eq_true (by first | (with_reducible assumption) | assumption); first | (have e_ := (Kd.R_reads' HO153.out).1; omega) | simpa only [Ny156.out, List.length_set] using h_)
                      have ql157 : (((ji16) : Int) < ((t151.length : Int) : Int)) = True := eq_true (of_decide_eq_true (by first | (with_reducible assumption) | assumption))
                      obtain ⟨ad157, e157, hx157_0⟩ := Kd.at_string (Kd.R_reads' HO153.out).2.2 (ji16) p157 q157
                      obtain rfl : (⟨go15, 0, none⟩ : Addr) = ad157 := (by injection e157)
                      (first | simp only [add_plain] at hx157_0 | simp only [add_at] at hx157_0 | simp only [Addr.add, Nat.zero_add] at hx157_0 | skip)
                      replace p157 := eq_true p157
                      replace q157 := eq_true q157
                      refine start_ (n := 20) (S := fun w' => w'.cell? ⟨gb148, 0, none⟩ = some (.int .i64 a1_0) ∧ w'.cell? ⟨gb148, 1, none⟩ = some (.int .i64 a1_1) ∧ w'.cell? ⟨go15, ((ji16)).toNat, none⟩ = some (.string (rdOf ByteArray.empty y156 (ji16)))) (ds := [19]) #[false, false, false, false, false, false, false, false, false, false, false, false, false, false, false, false, false, false, false, false] (by kernel_rfl) rfl rfl ⟨(blk_cell BK148.out 0).trans rfl, (blk_cell BK148.out 1).trans rfl, hx157_0⟩ (fun hHeld => ?_); refine with_tabW spec_boMake.tab5 spec_boMake.bits5 (fun HT_ HW_ => ?_)
                      generalize w27.drew = w28 at HO153 BK148 HB HQ26 hx157_0 hHeld ⊢
                      refine pure_ (i := 0) (N := some 49) (v := ?_) (a' := ?_) #[true, false, false, false, false, false, false, false, false, false, false, false, false, false, false, false, false, false, false, false] rfl rfl (any_of HT_.out (by kernel_rfl)) (fun _ _ _ h => h) (Or.inl ⟨by rfl, ?_⟩) ?_ ?_
                      rotate_left
                      · intro w'
                        go_simp
                        with_reducible rfl
                      rotate_left
                      · simp only [Act.put, List.setIfInBounds_toArray, List.set_cons_zero, List.set_cons_succ, i64_w, i32_w]
                        rfl
                      refine pure_ (i := 1) (N := some 50) (v := ?_) (a' := ?_) #[true, true, false, false, false, false, false, false, false, false, false, false, false, false, false, false, false, false, false, false] rfl rfl (any_of HT_.out (by kernel_rfl)) (fun _ _ _ h => h) (Or.inl ⟨by rfl, ?_⟩) ?_ ?_
                      rotate_left
                      · intro w'
                        go_simp
                        with_reducible rfl
                      rotate_left
                      · simp only [Act.put, List.setIfInBounds_toArray, List.set_cons_zero, List.set_cons_succ, i64_w, i32_w]
                        rfl
                      refine pure_ (i := 3) (N := some 52) (v := ?_) (a' := ?_) #[true, true, false, true, false, false, false, false, false, false, false, false, false, false, false, false, false, false, false, false] rfl rfl (any_of HT_.out (by kernel_rfl)) (fun _ _ _ h => h) (Or.inl ⟨by rfl, ?_⟩) ?_ ?_
                      rotate_left
                      · intro w'
                        go_simp
                        with_reducible rfl
                      rotate_left
                      · simp only [Act.put, List.setIfInBounds_toArray, List.set_cons_zero, List.set_cons_succ, i64_w, i32_w]
                        rfl
                      refine pure_ (i := 5) (N := some 54) (v := ?_) (a' := ?_) #[true, true, false, true, false, true, false, false, false, false, false, false, false, false, false, false, false, false, false, false] rfl rfl (any_of HT_.out (by kernel_rfl)) (fun _ _ _ h => h) (Or.inl ⟨by rfl, ?_⟩) ?_ ?_
                      rotate_left
                      · intro w'
                        go_simp
                        with_reducible rfl
                      rotate_left
                      · simp only [Act.put, List.setIfInBounds_toArray, List.set_cons_zero, List.set_cons_succ, i64_w, i32_w]
                        rfl
                      refine pure_ (i := 6) (N := some 55) (v := ?_) (a' := ?_) #[true, true, false, true, false, true, true, false, false, false, false, false, false, false, false, false, false, false, false, false] rfl rfl (any_of HT_.out (by kernel_rfl)) (fun _ _ _ h => h) (Or.inl ⟨by rfl, ?_⟩) ?_ ?_
                      rotate_left
                      · intro w'
                        go_simp
                        with_reducible rfl
                      rotate_left
                      · simp only [Act.put, List.setIfInBounds_toArray, List.set_cons_zero, List.set_cons_succ, i64_w, i32_w]
                        rfl
                      refine pure_ (i := 8) (N := some 57) (v := ?_) (a' := ?_) #[true, true, false, true, false, true, true, false, true, false, false, false, false, false, false, false, false, false, false, false] rfl rfl (any_of HT_.out (by kernel_rfl)) (fun _ _ _ h => h) (Or.inl ⟨by rfl, ?_⟩) ?_ ?_
                      rotate_left
                      · intro w'
                        go_simp
                        with_reducible rfl
                      rotate_left
                      · simp only [Act.put, List.setIfInBounds_toArray, List.set_cons_zero, List.set_cons_succ, i64_w, i32_w]
                        rfl
                      refine pure_ (i := 12) (N := some 61) (v := ?_) (a' := ?_) #[true, true, false, true, false, true, true, false, true, false, false, false, true, false, false, false, false, false, false, false] rfl rfl (any_of HT_.out (by kernel_rfl)) (fun _ _ _ h => h) (Or.inl ⟨by rfl, ?_⟩) ?_ ?_
                      rotate_left
                      · intro w'
                        go_simp
                        with_reducible rfl
                      rotate_left
                      · simp only [Act.put, List.setIfInBounds_toArray, List.set_cons_zero, List.set_cons_succ, i64_w, i32_w]
                        rfl
                      refine pure_ (i := 14) (N := some 63) (v := ?_) (a' := ?_) #[true, true, false, true, false, true, true, false, true, false, false, false, true, false, true, false, false, false, false, false] rfl rfl (any_of HT_.out (by kernel_rfl)) (fun _ _ _ h => h) (Or.inl ⟨by rfl, ?_⟩) ?_ ?_
                      rotate_left
                      · intro w'
                        go_simp
                        with_reducible rfl
                      rotate_left
                      · simp only [Act.put, List.setIfInBounds_toArray, List.set_cons_zero, List.set_cons_succ, i64_w, i32_w]
                        rfl
                      refine pure_ (i := 16) (N := some 65) (v := ?_) (a' := ?_) #[true, true, false, true, false, true, true, false, true, false, false, false, true, false, true, false, true, false, false, false] rfl rfl (any_of HT_.out (by kernel_rfl)) (fun _ _ _ h => h) (Or.inl ⟨by rfl, ?_⟩) ?_ ?_
                      rotate_left
                      · intro w'
                        go_simp
                        with_reducible rfl
                      rotate_left
                      · simp only [Act.put, List.setIfInBounds_toArray, List.set_cons_zero, List.set_cons_succ, i64_w, i32_w]
                        rfl
                      refine take_ (i := 2) (N := some 51) (v := ?_) (a' := ?_) #[true, true, true, true, false, true, true, false, true, false, false, false, true, false, true, false, true, false, false, false] rfl rfl (take_ofW HT_.out HW_.out (by kernel_rfl)) (fun _ _ _ h => h) (Or.inl ⟨by rfl, ?_⟩) hHeld ?_ ?_
                      rotate_left
                      · rintro w' ⟨s0, s1, s2⟩
                        go_simp
                        with_reducible rfl
                      rotate_left
                      · simp only [Act.put, List.setIfInBounds_toArray, List.set_cons_zero, List.set_cons_succ, i64_w, i32_w]
                        rfl
                      refine pure_ (i := 4) (N := some 53) (v := ?_) (a' := ?_) #[true, true, true, true, true, true, true, false, true, false, false, false, true, false, true, false, true, false, false, false] rfl rfl (any_of HT_.out (by kernel_rfl)) (fun _ _ _ h => h) (Or.inl ⟨by rfl, ?_⟩) ?_ ?_
                      rotate_left
                      · intro w'
                        go_simp
                        with_reducible rfl
                      rotate_left
                      · simp only [Act.put, List.setIfInBounds_toArray, List.set_cons_zero, List.set_cons_succ, i64_w, i32_w]
                        rfl
                      refine take_ (i := 7) (N := some 56) (v := ?_) (a' := ?_) #[true, true, true, true, true, true, true, true, true, false, false, false, true, false, true, false, true, false, false, false] rfl rfl (take_ofW HT_.out HW_.out (by kernel_rfl)) (fun _ _ _ h => h) (Or.inl ⟨by rfl, ?_⟩) hHeld ?_ ?_
                      rotate_left
                      · rintro w' ⟨s0, s1, s2⟩
                        go_simp
                        with_reducible rfl
                      rotate_left
                      · simp only [Act.put, List.setIfInBounds_toArray, List.set_cons_zero, List.set_cons_succ, i64_w, i32_w]
                        rfl
                      refine pure_ (i := 9) (N := some 58) (v := ?_) (a' := ?_) #[true, true, true, true, true, true, true, true, true, true, false, false, true, false, true, false, true, false, false, false] rfl rfl (any_of HT_.out (by kernel_rfl)) (fun _ _ _ h => h) (Or.inl ⟨by rfl, ?_⟩) ?_ ?_
                      rotate_left
                      · intro w'
                        go_simp
                        with_reducible rfl
                      rotate_left
                      · simp only [Act.put, List.setIfInBounds_toArray, List.set_cons_zero, List.set_cons_succ, i64_w, i32_w]
                        rfl
                      refine pure_ (i := 10) (N := some 59) (v := ?_) (a' := ?_) #[true, true, true, true, true, true, true, true, true, true, true, false, true, false, true, false, true, false, false, false] rfl rfl (any_of HT_.out (by kernel_rfl)) (fun _ _ _ h => h) (Or.inl ⟨by rfl, ?_⟩) ?_ ?_
                      rotate_left
                      · intro w'
                        go_simp
                        with_reducible rfl
                      rotate_left
                      · simp only [Act.put, List.setIfInBounds_toArray, List.set_cons_zero, List.set_cons_succ, i64_w, i32_w]
                        rfl
                      refine take_ (i := 11) (N := some 60) (v := ?_) (a' := ?_) #[true, true, true, true, true, true, true, true, true, true, true, true, true, false, true, false, true, false, false, false] rfl rfl (take_ofW HT_.out HW_.out (by kernel_rfl)) (fun _ _ _ h => h) (Or.inl ⟨by rfl, ?_⟩) hHeld ?_ ?_
                      rotate_left
                      · rintro w' ⟨s0, s1, s2⟩
                        go_simp
                        with_reducible rfl
                      rotate_left
                      · simp only [Act.put, List.setIfInBounds_toArray, List.set_cons_zero, List.set_cons_succ, i64_w, i32_w]
                        rfl
                      refine take_ (i := 13) (N := some 62) (v := ?_) (a' := ?_) #[true, true, true, true, true, true, true, true, true, true, true, true, true, true, true, false, true, false, false, false] rfl rfl (take_ofW HT_.out HW_.out (by kernel_rfl)) (fun _ _ _ h => h) (Or.inl ⟨by rfl, ?_⟩) hHeld ?_ ?_
                      rotate_left
                      · rintro w' ⟨s0, s1, s2⟩
                        go_simp
                        with_reducible rfl
                      rotate_left
                      · simp only [Act.put, List.setIfInBounds_toArray, List.set_cons_zero, List.set_cons_succ, i64_w, i32_w]
                        rfl
                      refine pure_ (i := 15) (N := some 64) (v := ?_) (a' := ?_) #[true, true, true, true, true, true, true, true, true, true, true, true, true, true, true, true, true, false, false, false] rfl rfl (any_of HT_.out (by kernel_rfl)) (fun _ _ _ h => h) (Or.inl ⟨by rfl, ?_⟩) ?_ ?_
                      rotate_left
                      · intro w'
                        go_simp
                        with_reducible rfl
                      rotate_left
                      · simp only [Act.put, List.setIfInBounds_toArray, List.set_cons_zero, List.set_cons_succ, i64_w, i32_w]
                        rfl
                      refine one_ (i := 17) (N := some 66) #[true, true, true, true, true, true, true, true, true, true, true, true, true, true, true, true, true, true, false, false] rfl rfl (one_of HT_.out (by kernel_rfl)) (by decide) (fun K hK => ?_)
                      refine goes_ Tryz.func39 (by kernel_rfl) rfl #[.string (rdOf ByteArray.empty y156 (ji16)), .int .i64 (Int.tmod a1_1 ((rdOf ByteArray.empty l0 0).size : Int)), .string ((rdOf ByteArray.empty l0 (ji5)).extract ((ji8) : Int).toNat ((wrap64 ((ji8) + 1)) : Int).toNat)] (by rfl) rfl rfl (by (try simp only [List.map_toArray, List.map_cons, List.map_nil]); first | done | (simp only [hji16, hji5, hji8]; rfl) | rfl | (simp only [List.length_drop, List.length_take]; rfl)) ?_
                      with_reducible refine (spec_liPut.calls (rdOf ByteArray.empty y156 (ji16)) (Int.tmod a1_1 ((rdOf ByteArray.empty l0 0).size : Int)) ((rdOf ByteArray.empty l0 (ji5)).extract ((ji8) : Int).toNat ((wrap64 ((ji8) + 1)) : Int).toNat) t158 _ (by first | with_reducible exact HG.out | ((repeat (first | with_reducible exact HG.out | with_reducible apply GW.drewN_ | with_reducible apply GW.drew_)); done) | (apply GW.below_ HG.out; (repeat (first | (with_reducible first | exact HB.out | apply below_alloc | apply pw_below_drewN | apply below_drew1 | refine below_set ?_ (Aside0.out (by assumption))) | exact HB.out)); done)) A19.out).mono ?_
                      rintro e w' ⟨rfl, ⟨nd, rfl⟩⟩
                      refine ⟨_, rfl, ?_⟩
                      have p20 : 0 ≤ ((ji16) : Int) := of_decide_eq_true (by first | (with_reducible assumption) | assumption)
                      have q20 : ((ji16) : Int) < ((t151.length : Int) : Int) := of_decide_eq_true (by first | (with_reducible assumption) | assumption)
                      obtain ⟨hx20_0, hf20_0⟩ := Kd.R_celln (⟨#[]⟩ : ByteArray) HO153.out ((ji16) : Int) p20 q20
                      replace p20 := eq_true p20
                      replace q20 := eq_true q20
                      have HP29 := Kd.R_putn HO153.out ((ji16) : Int) t158
                      rw [← Ny159.out] at HP29
                      have HQ29 := Aside0.mk HP29
                      clear HP29
                      refine hK.out _ _ ⟨(blk_cell BK148.out 0).trans rfl, (blk_cell BK148.out 1).trans rfl, hHeld.2.2⟩ (fun hHeld => ?_)
                      clear hK K
                      refine norm_ (a' := ?_) ?_ ?_
                      rotate_left
                      · show Act.put _ (some 66) _ = _
                        simp only [Act.put, List.setIfInBounds_toArray, List.set_cons_zero, List.set_cons_succ, i64_w, i32_w]
                        rfl
                      refine pure_ (i := 18) (N := some 67) (v := ?_) (a' := ?_) #[true, true, true, true, true, true, true, true, true, true, true, true, true, true, true, true, true, true, true, false] rfl rfl (any_of HT_.out (by kernel_rfl)) (fun _ _ _ h => h) (Or.inl ⟨by rfl, ?_⟩) ?_ ?_
                      rotate_left
                      · intro w'
                        go_simp
                        with_reducible rfl
                      rotate_left
                      · simp only [Act.put, List.setIfInBounds_toArray, List.set_cons_zero, List.set_cons_succ, i64_w, i32_w]
                        rfl
                      refine last_ (i := 19) (N := none) #[true, true, true, true, true, true, true, true, true, true, true, true, true, true, true, true, true, true, true, true] rfl rfl (one_of HT_.out (by kernel_rfl)) (by decide) (fun K hK => ?_)
                      refine skip_ (w1 := ?_) (by rfl) rfl ?_ ?_
                      rotate_left
                      · go_simp
                        rfl
                      refine hK.out _ _ ?_
                      clear hK K
                      refine done_ (done_of HT_.out (by kernel_rfl)) ?_
                      try go_wp2
                      go_ret
                      exact ⟨_, by first | rfl | (simp [errW_none, errW_some] <;> rfl) | (simp only [← hji5, ← hji8, ← hji16]; first | rfl | (simp [errW_none, errW_some] <;> rfl)) | (simp [*, errW_none, errW_some] <;> rfl), by (with_reducible repeat (first | apply Kd.R_alloc | apply Kd.R_drewN | apply Kd.R_drew)); exact HQ29.out, by repeat (first | (with_reducible first | exact HB.out | apply below_alloc | apply pw_below_drewN | apply below_drew1 | refine below_set ?_ GB15.out | refine below_set ?_ GE148.out) | exact HB.out)⟩
                    · rw [if_neg c18] at H
                      exact absurd H (by simp)
                  · rw [if_neg c17] at H
                    exact absurd H (by simp)
                · rw [if_neg c13] at H
                  exact absurd H (by simp)
              · rw [if_neg c11] at H
                exact absurd H (by simp)
            · rw [if_neg c10] at H
              exact absurd H (by simp)
          · rw [if_neg c9] at H
            exact absurd H (by simp)
        · rw [if_neg c7] at H
          exact absurd H (by simp)
      · rw [if_neg c6] at H
        exact absurd H (by simp)
  · rw [if_neg c3] at H
    exact absurd H (by simp)
end Go.Proofs.YtdgfnoekgeipiaaGreatDoor.Q
namespace Go.Proofs.YtdgfnoekgeipiaaGreatDoor.Q
open Go.RowKit Go.Proofs.YtdgfnoekgeipiaaGreatDoorW.PrintWords Go.Proofs.YtdgfnoekgeipiaaGreatDoorW.PrintLast Go.Proofs.YtdgfnoekgeipiaaGreatDoorW.PrintMore
attribute [local go_sem] max2_int min2_int max_two min_two max_three min_three max_four min_four   
set_option linter.unusedVariables false
set_option linter.unusedSimpArgs false
def spec_boPlay.l0 : Nat → List ByteArray → List (S38) → List (S38) → Int → Int → Option (List ByteArray × Int)
  | 0, _, _, _, _, _ => none
  | k + 1, x0, x1, x8, x9, x10 => if x10 < x9 then (if 0 ≤ x10 then (if x10 < (x8.length : Int) then ((spec_boCan.f k x0 ((rd_T38 x8 x10).f0) ((rd_T38 x8 x10).f1)).bind fun t162 => (if t162 = true then ((spec_boMake.f x0 ((rd_T38 x8 x10).f0) ((rd_T38 x8 x10).f1)).bind fun t163 => (spec_boPlay.l0 k t163 x1 x8 x9 (wrap64 (x10 + 1)))) else (some (x0, x10)))) else (none)) else (none)) else (some (x0, (x1.length : Int)))
def spec_boPlay.f (k : Nat) (l0 : List ByteArray) (l1 : List (S38)) : Option (List ByteArray × Int) := spec_boPlay.l0 k l0 l1 l1 (l1.length : Int) 0
set_option maxHeartbeats 8000000 in
set_option maxRecDepth 100000 in
theorem spec_boPlay.calls (k : Nat) (P0_ : Nat → Prop) (A0 : Option Addr) (c0 : Nat) (l0 : List ByteArray) (A1 : Option Addr) (c1 : Nat) (l1 : List (S38)) (r1 : List ByteArray) (r2 : Int) (w : World) (hG : GW w) (hs0 : Kd.V Kd.string 9 w w.heap.size (fun k_ => P0_ k_) (.slice A0 l0.length c0) l0) (hr1 : Kd.C k38 w A1 l1.length l1) (hc1 : l1.length ≤ c1) (h : spec_boPlay.f k l0 l1 = some (r1, r2)) :
    Calls Tryz.prog 13 #[.slice A0 l0.length c0, .slice A1 l1.length c1] w fun e w' => ∃ v0_ : Value, e = .returned (.tuple #[v0_, .int .i64 r2]) ∧ Kd.V Kd.string 9 w' w.heap.size (fun k_ => (P0_ k_ ∨ w.heap.size ≤ k_)) v0_ r1 ∧ Below w.heap.size w w' := by
  have hu38 := Tryz.underlying38
  have HO0 := Aside0.mk (show Kd.V Kd.string 9 w w.heap.size (fun k_ => (P0_ k_ ∨ w.heap.size ≤ k_)) (.slice A0 l0.length c0) l0 from Kd.V_mono hs0 (fun k_ hk => .inl hk))
  have HR1 := Aside0.mk hr1
  have HC1 := Aside0.mk hc1
  clear hr1 hc1
  have HB := Aside0.mk (Below.refl w.heap.size w)
  have HG := Aside0.mk hG
  clear hG
  have H : (spec_boPlay.l0 k l0 l1 l1 (l1.length : Int) 0) = some (r1, r2) := h
  clear h
  have H' := Aside0.mk H
  clear H
  go_enter Tryz.func13, Tryz.ntmps13
  go_wp2
  go_loopg [0, 10] k (fun kq v0 v10 w' => ∃ (x0_1 : List ByteArray) (x10_1 : Int), v10 = .int .i64 x10_1 ∧ Aside0 (spec_boPlay.l0 kq x0_1 l1 l1 (l1.length : Int) x10_1 = some (r1, r2)) ∧ Aside0 (kq ≤ k) ∧ Aside0 (Kd.V Kd.string 9 w' w.heap.size (fun k_ => (P0_ k_ ∨ w.heap.size ≤ k_)) v0 x0_1) ∧ Aside0 (Below w.heap.size w w'))
  case atStart => exact ⟨(l0), (0), (by first | rfl | (simp; done) | (simp [*]; done)), H', ⟨Nat.le_refl _⟩, ⟨by (with_reducible repeat (first | apply Kd.V_alloc | apply Kd.V_drewN | apply Kd.V_drew)); exact HO0.out⟩, ⟨by repeat (first | (with_reducible first | exact HB.out | apply below_alloc | apply pw_below_drewN | apply below_drew1) | exact HB.out)⟩⟩
  case round =>
    clear H'
    try clear c1
    try clear p2
    obtain ⟨x0_1, x10_1, rfl, HA, HK1, HO_0, HB⟩ := hrel
    cases gk with
    | zero => exact absurd HA.out (by simp [spec_boPlay.l0])
    | succ k1 =>
      have H := HA.out
      clear HA
      simp only [spec_boPlay.l0] at H
      by_cases c3 : x10_1 < (l1.length : Int)
      · rw [if_pos c3] at H
        have c3b0 : decide (x10_1 < (l1.length : Int)) = true := decide_eq_true c3
        clear c3
        by_cases c4 : 0 ≤ x10_1
        · rw [if_pos c4] at H
          have c4b0 : decide (0 ≤ x10_1) = true := decide_eq_true c4
          clear c4
          by_cases c5 : x10_1 < (l1.length : Int)
          · rw [if_pos c5] at H
            have c5b0 : decide (x10_1 < (l1.length : Int)) = true := decide_eq_true c5
            clear c5
            replace H := Option.bind_eq_some_iff.mp H
            obtain ⟨t162, A60, H⟩ := H
            replace H : (if t162 = true then ((spec_boMake.f x0_1 ((rd_T38 l1 x10_1).f0) ((rd_T38 l1 x10_1).f1)).bind fun t163 => (spec_boPlay.l0 k1 t163 l1 l1 (l1.length : Int) (wrap64 (x10_1 + 1)))) else (some (x0_1, x10_1))) = some (r1, r2) := H
            have A6 := Aside0.mk A60
            clear A60
            by_cases c7 : t162 = true
            · subst c7
              have H1 : ((spec_boMake.f x0_1 ((rd_T38 l1 x10_1).f0) ((rd_T38 l1 x10_1).f1)).bind fun t163 => (spec_boPlay.l0 k1 t163 l1 l1 (l1.length : Int) (wrap64 (x10_1 + 1)))) = some (r1, r2) := by rw [if_pos rfl] at H; exact H
              clear H
              have H := H1
              clear H1
              replace H := Option.bind_eq_some_iff.mp H
              obtain ⟨t163, A80, H⟩ := H
              replace H : (spec_boPlay.l0 k1 t163 l1 l1 (l1.length : Int) (wrap64 (x10_1 + 1))) = some (r1, r2) := H
              have A8 := Aside0.mk A80
              clear A80
              have H' := Aside0.mk H
              clear H
              have p160 : 0 ≤ (x10_1 : Int) := of_decide_eq_true (by first | (with_reducible assumption) | assumption)
              have q160 : x10_1 < (l1.length : Int) := of_decide_eq_true (by first | (with_reducible assumption) | assumption)
              obtain ⟨ad160, e160, hx160_0, hx160_1⟩ := at_T38 HR1.out x10_1 p160 q160
              cases e160
              replace hx160_0 := (HB.out.cell (World.block_lt_of_cell? w _ hx160_0)).trans hx160_0
              replace hx160_1 := (HB.out.cell (World.block_lt_of_cell? w _ hx160_1)).trans hx160_1
              replace p160 := eq_true p160
              replace q160 := eq_true q160
              go_wp2_with (first | ((with_reducible refine gate_dst (N := 7) rfl ?_); refine box_event ?hg (N := 7) ?hd (cs := #[.int .i64 0, .int .i64 0]) (t := 38) ?hr ?_; (case hd => rfl); (case hg => rfl); (case hr => first | (go_simp; done) | (go_simp; rfl)); intro gb161 hg w9 hbox hb; have n0_ := Aside0.mk (Kd.V_below (Kd.V_elderB (by (with_reducible repeat (first | apply Kd.V_alloc | apply Kd.V_drewN | apply Kd.V_drew)); exact HO_0.out) gb161 (Nat.le_of_eq hg.symm)) hb); have n1_ := Aside0.mk (below_step (by repeat (first | (with_reducible first | exact HB.out | apply below_alloc | apply pw_below_drewN | apply below_drew1) | exact HB.out)) hb); have n2_ := Aside0.mk (hbox); have n3_ := Aside0.mk ((by rw [hg]; exact (below_size (by repeat (first | (with_reducible first | exact HB.out | apply below_alloc | apply pw_below_drewN | apply below_drew1) | exact HB.out))) : w.heap.size ≤ gb161)); have n4_ := Aside0.mk ((by rw [hg]; exact (below_size (by repeat (first | (with_reducible first | exact HB.out | apply below_alloc | apply pw_below_drewN | apply below_drew1) | exact HB.out))) : w.heap.size ≤ gb161)); clear HO_0; clear HB; have HO_0 := n0_; have HB := n1_; have BK161 := n2_; have GW161 := n3_; have GE161 := n4_; clear n0_ n1_ n2_ n3_ n4_; clear hb hbox hg; have hcz10_0 : w9.cell? ⟨gb161, 0, none⟩ = some (.int .i64 0) := (blk_cell BK161.out 0).trans rfl; have hcz10_1 : w9.cell? ⟨gb161, 1, none⟩ = some (.int .i64 0) := (blk_cell BK161.out 1).trans rfl; have hfz10_0 := blk_frozen BK161.out 0; have hfz10_1 := blk_frozen BK161.out 1; obtain ⟨Ao11, co11, eo11⟩ := Kd.V_slice HO_0.out; subst eo11) | ((with_reducible refine gate_callee (f := 24) rfl ?_); refine goesL_ (some 17) rfl rfl Tryz.func24 (by kernel_rfl) rfl #[.slice Ao11 x0_1.length co11, .agg #[.int .i64 ((rd_T38 l1 x10_1).f0), .int .i64 ((rd_T38 l1 x10_1).f1)]] rfl (by (try simp only [List.map_toArray, List.map_cons, List.map_nil]); first | done | rfl | (simp only [List.length_drop, List.length_take]; rfl)) ?_; (with_reducible refine (spec_boCan.calls k1 _ _ x0_1 ((rd_T38 l1 x10_1).f0) ((rd_T38 l1 x10_1).f1) true _ (by first | with_reducible exact HG.out | ((repeat (first | with_reducible exact HG.out | with_reducible apply GW.drewN_ | with_reducible apply GW.drew_)); done) | (apply GW.below_ HG.out; (repeat (first | (with_reducible first | exact HB.out | apply below_alloc | apply pw_below_drewN | apply below_drew1 | refine below_set ?_ (Aside0.out (by assumption))) | exact HB.out)); done)) ?side1 ?side2 A6.out).mono ?_); (case side1 => refine (Kd.V_reads' (e := 9) (base := w.heap.size) (ok := fun k_ => ((P0_ k_ ∨ w.heap.size ≤ k_) ∧ k_ ≠ gb161)) (n := x0_1.length) (c := co11) ?_).2.2; exact (by (with_reducible repeat (first | apply Kd.V_alloc | apply Kd.V_drewN | apply Kd.V_drew)); exact (Kd.V_mono (Kd.V_far (p := ⟨gb161, 1, none⟩) (Kd.V_far (p := ⟨gb161, 0, none⟩) (Kd.V_mono HO_0.out (fun k_ hk => (⟨hk, hk.2⟩ : _ ∧ k_ ≠ gb161))) (fun _ hk => hk.2) (.int .i64 ((rd_T38 l1 x10_1).f0))) (fun _ hk => hk.2) (.int .i64 ((rd_T38 l1 x10_1).f1))) (fun _ h_ => h_.1)))); (case side2 => exact (Kd.V_reads' HO_0.out).2.1); rintro e w12 ⟨rfl, hb⟩; refine ⟨_, rfl, ?_⟩; have n0_ := Aside0.mk (Kd.V_below (by (with_reducible repeat (first | apply Kd.V_alloc | apply Kd.V_drewN | apply Kd.V_drew)); exact (Kd.V_mono (Kd.V_far (p := ⟨gb161, 1, none⟩) (Kd.V_far (p := ⟨gb161, 0, none⟩) (Kd.V_mono HO_0.out (fun k_ hk => (⟨hk, hk.2⟩ : _ ∧ k_ ≠ gb161))) (fun _ hk => hk.2) (.int .i64 ((rd_T38 l1 x10_1).f0))) (fun _ hk => hk.2) (.int .i64 ((rd_T38 l1 x10_1).f1))) (fun _ h_ => h_.1))) hb); have n1_ := Aside0.mk (blk_below (g := gb161) (o := .cells #[.int .i64 ((rd_T38 l1 x10_1).f0), .int .i64 ((rd_T38 l1 x10_1).f1)] 38 (0, 0)) (by (with_reducible repeat (first | refine blk_drewN ?_ _ | refine blk_drew ?_ | refine blk_alloc ?_ _)); refine blk_put (cs := #[.int .i64 ((rd_T38 l1 x10_1).f0), .int .i64 0]) ?_ 1 _ rfl; (with_reducible repeat (first | refine blk_drewN ?_ _ | refine blk_drew ?_ | refine blk_alloc ?_ _)); refine blk_put (cs := #[.int .i64 0, .int .i64 0]) ?_ 0 _ rfl; (with_reducible repeat (first | refine blk_drewN ?_ _ | refine blk_drew ?_ | refine blk_alloc ?_ _)); exact BK161.out) hb); have n2_ := Aside0.mk (below_step (by repeat (first | (with_reducible first | exact HB.out | apply below_alloc | apply pw_below_drewN | apply below_drew1 | refine below_set ?_ GE161.out) | exact HB.out)) hb); clear HO_0; clear BK161; clear HB; have HO_0 := n0_; have BK161 := n1_; have HB := n2_; clear n0_ n1_ n2_; (try clear hb); (try clear hb2); (try clear hk); (try clear hi); have hcz13_0 : w12.cell? ⟨gb161, 0, none⟩ = some (.int .i64 ((rd_T38 l1 x10_1).f0)) := (blk_cell BK161.out 0).trans rfl; have hcz13_1 : w12.cell? ⟨gb161, 1, none⟩ = some (.int .i64 ((rd_T38 l1 x10_1).f1)) := (blk_cell BK161.out 1).trans rfl; have hfz13_0 := blk_frozen BK161.out 0; have hfz13_1 := blk_frozen BK161.out 1) | ((with_reducible refine gate_callee (f := 25) rfl ?_); refine goesL_ (some 23) rfl rfl Tryz.func25 (by kernel_rfl) rfl #[.slice Ao11 x0_1.length co11, .agg #[.int .i64 ((rd_T38 l1 x10_1).f0), .int .i64 ((rd_T38 l1 x10_1).f1)]] rfl (by (try simp only [List.map_toArray, List.map_cons, List.map_nil]); first | done | rfl | (simp only [List.length_drop, List.length_take]; rfl)) ?_; (with_reducible refine (spec_boMake.calls _ _ x0_1 ((rd_T38 l1 x10_1).f0) ((rd_T38 l1 x10_1).f1) t163 _ (by first | with_reducible exact HG.out | ((repeat (first | with_reducible exact HG.out | with_reducible apply GW.drewN_ | with_reducible apply GW.drew_)); done) | (apply GW.below_ HG.out; (repeat (first | (with_reducible first | exact HB.out | apply below_alloc | apply pw_below_drewN | apply below_drew1 | refine below_set ?_ (Aside0.out (by assumption))) | exact HB.out)); done)) ?side1 ?side2 A8.out).mono ?_); (case side1 => repeat (first | exact (Kd.V_reads' HO_0.out).2.2 | (with_reducible refine Kd.C_alloc ?_ _) | (with_reducible refine Kd.C_drewN ?_ _) | (with_reducible refine Kd.C_drew ?_))); (case side2 => exact (Kd.V_reads' HO_0.out).2.1); rintro e w14 ⟨v164, rfl, ho0, hb⟩; refine ⟨_, rfl, ?_⟩; have n0_ := Aside0.mk (Kd.V_elder' (by (with_reducible repeat (first | apply Kd.V_alloc | apply Kd.V_drewN | apply Kd.V_drew)); exact HO_0.out) (Kd.R_base ho0) hb); have n1_ := Aside0.mk (Kd.R_lower (Kd.R_newM (M := fun k_ => (w.heap.size ≤ k_)) ho0 (below_size (by repeat (first | (with_reducible first | exact HB.out | apply below_alloc | apply pw_below_drewN | apply below_drew1 | refine below_set ?_ GE161.out) | exact HB.out))) (fun k_ h_ => h_)) (below_size (by repeat (first | (with_reducible first | exact HB.out | apply below_alloc | apply pw_below_drewN | apply below_drew1 | refine below_set ?_ GE161.out) | exact HB.out)))); have n2_ := Aside0.mk (blk_below (g := gb161) (o := .cells #[.int .i64 ((rd_T38 l1 x10_1).f0), .int .i64 ((rd_T38 l1 x10_1).f1)] 38 (0, 0)) (by (with_reducible repeat (first | refine blk_drewN ?_ _ | refine blk_drew ?_ | refine blk_alloc ?_ _)); exact BK161.out) hb); have n3_ := Aside0.mk (below_step (by repeat (first | (with_reducible first | exact HB.out | apply below_alloc | apply pw_below_drewN | apply below_drew1 | refine below_set ?_ GE161.out) | exact HB.out)) hb); clear HO_0; clear BK161; clear HB; have HO_0 := n0_; have HO165 := n1_; have BK161 := n2_; have HB := n3_; clear n0_ n1_ n2_ n3_; (try clear hb); (try clear hb2); (try clear hk); (try clear hi); (try clear ho0)))
              go_roundg k1
              case measure => have := HK1.out; omega
              case rel => exact ⟨(t163), (wrap64 (x10_1 + 1)), (by first | rfl | (simp; done) | (simp [*]; done)), H', ⟨by have := HK1.out; omega⟩, ⟨Kd.V_mono (Kd.R_V (by (with_reducible repeat (first | apply Kd.R_alloc | apply Kd.R_drewN | apply Kd.R_drew)); exact Kd.R_mono HO165.out (fun _ hk => hk.1))) (fun k_ hk => by first | exact ⟨(.inr (hk.1)), hk.2⟩ | exact (.inr (hk)))⟩, ⟨by repeat (first | (with_reducible first | exact HB.out | apply below_alloc | apply pw_below_drewN | apply below_drew1 | refine below_set ?_ GE161.out) | exact HB.out)⟩⟩
            · replace c7 := Bool.eq_false_iff.mpr c7
              subst c7
              have H1 : (some (x0_1, x10_1)) = some (r1, r2) := by rw [if_neg (show ¬ (false = true) by decide)] at H; exact H
              clear H
              have H := H1
              clear H1
              simp only [Option.some.injEq, Prod.mk.injEq] at H
              obtain ⟨rfl, rfl⟩ := H
              have p160 : 0 ≤ (x10_1 : Int) := of_decide_eq_true (by first | (with_reducible assumption) | assumption)
              have q160 : x10_1 < (l1.length : Int) := of_decide_eq_true (by first | (with_reducible assumption) | assumption)
              obtain ⟨ad160, e160, hx160_0, hx160_1⟩ := at_T38 HR1.out x10_1 p160 q160
              cases e160
              replace hx160_0 := (HB.out.cell (World.block_lt_of_cell? w _ hx160_0)).trans hx160_0
              replace hx160_1 := (HB.out.cell (World.block_lt_of_cell? w _ hx160_1)).trans hx160_1
              replace p160 := eq_true p160
              replace q160 := eq_true q160
              go_wp2_with (first | ((with_reducible refine gate_dst (N := 7) rfl ?_); refine box_event ?hg (N := 7) ?hd (cs := #[.int .i64 0, .int .i64 0]) (t := 38) ?hr ?_; (case hd => rfl); (case hg => rfl); (case hr => first | (go_simp; done) | (go_simp; rfl)); intro gb161 hg w15 hbox hb; have n0_ := Aside0.mk (Kd.V_below (Kd.V_elderB (by (with_reducible repeat (first | apply Kd.V_alloc | apply Kd.V_drewN | apply Kd.V_drew)); exact HO_0.out) gb161 (Nat.le_of_eq hg.symm)) hb); have n1_ := Aside0.mk (below_step (by repeat (first | (with_reducible first | exact HB.out | apply below_alloc | apply pw_below_drewN | apply below_drew1) | exact HB.out)) hb); have n2_ := Aside0.mk (hbox); have n3_ := Aside0.mk ((by rw [hg]; exact (below_size (by repeat (first | (with_reducible first | exact HB.out | apply below_alloc | apply pw_below_drewN | apply below_drew1) | exact HB.out))) : w.heap.size ≤ gb161)); have n4_ := Aside0.mk ((by rw [hg]; exact (below_size (by repeat (first | (with_reducible first | exact HB.out | apply below_alloc | apply pw_below_drewN | apply below_drew1) | exact HB.out))) : w.heap.size ≤ gb161)); clear HO_0; clear HB; have HO_0 := n0_; have HB := n1_; have BK161 := n2_; have GW161 := n3_; have GE161 := n4_; clear n0_ n1_ n2_ n3_ n4_; clear hb hbox hg; have hcz16_0 : w15.cell? ⟨gb161, 0, none⟩ = some (.int .i64 0) := (blk_cell BK161.out 0).trans rfl; have hcz16_1 : w15.cell? ⟨gb161, 1, none⟩ = some (.int .i64 0) := (blk_cell BK161.out 1).trans rfl; have hfz16_0 := blk_frozen BK161.out 0; have hfz16_1 := blk_frozen BK161.out 1; obtain ⟨Ao17, co17, eo17⟩ := Kd.V_slice HO_0.out; subst eo17) | ((with_reducible refine gate_callee (f := 24) rfl ?_); refine goesL_ (some 17) rfl rfl Tryz.func24 (by kernel_rfl) rfl #[.slice Ao17 x0_1.length co17, .agg #[.int .i64 ((rd_T38 l1 x10_1).f0), .int .i64 ((rd_T38 l1 x10_1).f1)]] rfl (by (try simp only [List.map_toArray, List.map_cons, List.map_nil]); first | done | rfl | (simp only [List.length_drop, List.length_take]; rfl)) ?_; (with_reducible refine (spec_boCan.calls k1 _ _ x0_1 ((rd_T38 l1 x10_1).f0) ((rd_T38 l1 x10_1).f1) false _ (by first | with_reducible exact HG.out | ((repeat (first | with_reducible exact HG.out | with_reducible apply GW.drewN_ | with_reducible apply GW.drew_)); done) | (apply GW.below_ HG.out; (repeat (first | (with_reducible first | exact HB.out | apply below_alloc | apply pw_below_drewN | apply below_drew1 | refine below_set ?_ (Aside0.out (by assumption))) | exact HB.out)); done)) ?side1 ?side2 A6.out).mono ?_); (case side1 => refine (Kd.V_reads' (e := 9) (base := w.heap.size) (ok := fun k_ => ((P0_ k_ ∨ w.heap.size ≤ k_) ∧ k_ ≠ gb161)) (n := x0_1.length) (c := co17) ?_).2.2; exact (by (with_reducible repeat (first | apply Kd.V_alloc | apply Kd.V_drewN | apply Kd.V_drew)); exact (Kd.V_mono (Kd.V_far (p := ⟨gb161, 1, none⟩) (Kd.V_far (p := ⟨gb161, 0, none⟩) (Kd.V_mono HO_0.out (fun k_ hk => (⟨hk, hk.2⟩ : _ ∧ k_ ≠ gb161))) (fun _ hk => hk.2) (.int .i64 ((rd_T38 l1 x10_1).f0))) (fun _ hk => hk.2) (.int .i64 ((rd_T38 l1 x10_1).f1))) (fun _ h_ => h_.1)))); (case side2 => exact (Kd.V_reads' HO_0.out).2.1); rintro e w18 ⟨rfl, hb⟩; refine ⟨_, rfl, ?_⟩; have n0_ := Aside0.mk (Kd.V_below (by (with_reducible repeat (first | apply Kd.V_alloc | apply Kd.V_drewN | apply Kd.V_drew)); exact (Kd.V_mono (Kd.V_far (p := ⟨gb161, 1, none⟩) (Kd.V_far (p := ⟨gb161, 0, none⟩) (Kd.V_mono HO_0.out (fun k_ hk => (⟨hk, hk.2⟩ : _ ∧ k_ ≠ gb161))) (fun _ hk => hk.2) (.int .i64 ((rd_T38 l1 x10_1).f0))) (fun _ hk => hk.2) (.int .i64 ((rd_T38 l1 x10_1).f1))) (fun _ h_ => h_.1))) hb); have n1_ := Aside0.mk (blk_below (g := gb161) (o := .cells #[.int .i64 ((rd_T38 l1 x10_1).f0), .int .i64 ((rd_T38 l1 x10_1).f1)] 38 (0, 0)) (by (with_reducible repeat (first | refine blk_drewN ?_ _ | refine blk_drew ?_ | refine blk_alloc ?_ _)); refine blk_put (cs := #[.int .i64 ((rd_T38 l1 x10_1).f0), .int .i64 0]) ?_ 1 _ rfl; (with_reducible repeat (first | refine blk_drewN ?_ _ | refine blk_drew ?_ | refine blk_alloc ?_ _)); refine blk_put (cs := #[.int .i64 0, .int .i64 0]) ?_ 0 _ rfl; (with_reducible repeat (first | refine blk_drewN ?_ _ | refine blk_drew ?_ | refine blk_alloc ?_ _)); exact BK161.out) hb); have n2_ := Aside0.mk (below_step (by repeat (first | (with_reducible first | exact HB.out | apply below_alloc | apply pw_below_drewN | apply below_drew1 | refine below_set ?_ GE161.out) | exact HB.out)) hb); clear HO_0; clear BK161; clear HB; have HO_0 := n0_; have BK161 := n1_; have HB := n2_; clear n0_ n1_ n2_; (try clear hb); (try clear hb2); (try clear hk); (try clear hi)))
              go_ret2
              exact ⟨_, by first | rfl | (simp [errW_none, errW_some] <;> rfl) | (simp [*, errW_none, errW_some] <;> rfl), by (with_reducible repeat (first | apply Kd.V_alloc | apply Kd.V_drewN | apply Kd.V_drew)); exact Kd.V_mono HO_0.out (fun _ hk => hk.1), by repeat (first | (with_reducible first | exact HB.out | apply below_alloc | apply pw_below_drewN | apply below_drew1 | refine below_set ?_ GE161.out) | exact HB.out)⟩
          · rw [if_neg c5] at H
            exact absurd H (by simp)
        · rw [if_neg c4] at H
          exact absurd H (by simp)
      · rw [if_neg c3] at H
        have c3b0 : decide (x10_1 < (l1.length : Int)) = false := decide_eq_false c3
        clear c3
        simp only [Option.some.injEq, Prod.mk.injEq] at H
        obtain ⟨rfl, rfl⟩ := H
        go_wp2
        go_ret2
        exact ⟨_, by first | rfl | (simp [errW_none, errW_some] <;> rfl) | (simp [*, errW_none, errW_some] <;> rfl), by (with_reducible repeat (first | apply Kd.V_alloc | apply Kd.V_drewN | apply Kd.V_drew)); exact HO_0.out, by repeat (first | (with_reducible first | exact HB.out | apply below_alloc | apply pw_below_drewN | apply below_drew1) | exact HB.out)⟩
end Go.Proofs.YtdgfnoekgeipiaaGreatDoor.Q
namespace Go.Proofs.YtdgfnoekgeipiaaGreatDoor.Q
open Go.RowKit Go.Proofs.YtdgfnoekgeipiaaGreatDoorW.PrintWords Go.Proofs.YtdgfnoekgeipiaaGreatDoorW.PrintLast Go.Proofs.YtdgfnoekgeipiaaGreatDoorW.PrintMore
attribute [local go_sem] max2_int min2_int max_two min_two max_three min_three max_four min_four   
set_option linter.unusedVariables false
set_option linter.unusedSimpArgs false
end Go.Proofs.YtdgfnoekgeipiaaGreatDoor.Q
namespace Go.Proofs.YtdgfnoekgeipiaaGreatDoor.Q
open Go.RowKit Go.Proofs.YtdgfnoekgeipiaaGreatDoorW.PrintWords Go.Proofs.YtdgfnoekgeipiaaGreatDoorW.PrintLast Go.Proofs.YtdgfnoekgeipiaaGreatDoorW.PrintMore
attribute [local go_sem] max2_int min2_int max_two min_two max_three min_three max_four min_four   
set_option linter.unusedVariables false
set_option linter.unusedSimpArgs false
end Go.Proofs.YtdgfnoekgeipiaaGreatDoor.Q
namespace Go.Proofs.YtdgfnoekgeipiaaGreatDoor.Q
open Go.RowKit Go.Proofs.YtdgfnoekgeipiaaGreatDoorW.PrintWords Go.Proofs.YtdgfnoekgeipiaaGreatDoorW.PrintLast Go.Proofs.YtdgfnoekgeipiaaGreatDoorW.PrintMore
attribute [local go_sem] max2_int min2_int max_two min_two max_three min_three max_four min_four   
set_option linter.unusedVariables false
set_option linter.unusedSimpArgs false
def strings_Split.f (a0 a1 : ByteArray) : Option (List ByteArray) := if a0.size < 4294967281 ∧ 1 ≤ a1.size then some (Lib.splitB a1 0 (Lib.countB a0 a1) a0) else none
theorem strings_Split.calls (a0 a1 : ByteArray) (r : List ByteArray) (w : World) (hG : GW w) (h : strings_Split.f a0 a1 = some r) :
    Calls Tryz.prog 26 #[.string a0, .string a1] w fun e w' => ∃ v0_ : Value, e = .returned (v0_) ∧ Kd.R Kd.string 9 w' w.heap.size (fun _ => True) v0_ r ∧ Below w.heap.size w w' := by
  unfold strings_Split.f at h
  split at h
  case isFalse => exact absurd h (by simp)
  rename_i hc
  obtain rfl := Option.some.inj h
  obtain ⟨m, hm⟩ := hG.maxLen
  have hlen := Lib.splitB_all a1 hc.2 0 _ a0 rfl
  refine (Tryz.strings_Split a0 a1 m w hc.1 hm hc.2).mono ?_
  rintro e w' ⟨rfl, rfl⟩
  have hle := Lib.countB_le a1 hc.2 _ a0 (Nat.le_refl _)
  have hR := Kd.R_fresh Value.string (fun _ => rfl) 9 w (Lib.splitB a1 0 (Lib.countB a0 a1) a0) (by omega)
  rw [hlen] at hR
  exact ⟨_, rfl, hR, below_alloc (Below.refl _ _) _⟩
end Go.Proofs.YtdgfnoekgeipiaaGreatDoor.Q
namespace Go.Proofs.YtdgfnoekgeipiaaGreatDoor.Q
open Go.RowKit Go.Proofs.YtdgfnoekgeipiaaGreatDoorW.PrintWords Go.Proofs.YtdgfnoekgeipiaaGreatDoorW.PrintLast Go.Proofs.YtdgfnoekgeipiaaGreatDoorW.PrintMore
attribute [local go_sem] max2_int min2_int max_two min_two max_three min_three max_four min_four   
set_option linter.unusedVariables false
set_option linter.unusedSimpArgs false
theorem IndexFuncS.calls (p : ByteArray → Bool) (Inv : World → Prop) (g : Nat) (lb : Array Value) (eg : ∀ args w, (callFunc g args).run Tryz.prog w = .ok (.enter g args) w)
    (A0 : Option Addr) (c0 : Nat) (l0 : List ByteArray)
    (hR : ∀ W, Inv W → Kd.C Kd.string W A0 l0.length l0)
    (hp : ∀ W x, x ∈ l0 → Inv W → Calls Tryz.prog g (#[.string x] ++ lb) W fun e W' => e = .returned (.bool (p x)) ∧ Inv W')
    (w : World) (hI : Inv w) :
    Calls Tryz.prog 41 #[.slice A0 l0.length c0, .func (.func g) #[] lb] w fun e w' => e = .returned (.int .i64 (idxP p l0)) ∧ Inv w' := by
  have HI := Aside0.mk hI
  have HR := Aside0.mk hR
  have HP := Aside0.mk hp
  have hbig : l0.length ≤ 9223372036854775807 := (hR w hI).2.1
  clear hI hR hp
  go_enter Tryz.func41, Tryz.ntmps41
  go_wp2
  go_loopg [5, 8] l0.length (fun gg _ s8 wr => ∃ kk : Nat, kk ≤ l0.length ∧ l0.length - kk ≤ gg ∧ s8 = .int .i64 kk ∧ Aside0 (Inv wr) ∧ Aside0 (∀ j, j < kk → p (l0.getD j ByteArray.empty) = false))
  case atStart => exact ⟨0, Nat.zero_le _, by omega, rfl, HI, ⟨fun j hj => absurd hj (Nat.not_lt_zero _)⟩⟩
  case round =>
    obtain ⟨kk, hkk, hg, rfl, HIr, A⟩ := hrel
    by_cases hlt : kk < l0.length
    · have hltz : (kk : Int) < (l0.length : Int) := by omega
      obtain ⟨ad, e, hcell⟩ := Kd.at_string (HR.out wr HIr.out) kk (by omega) hltz
      subst e
      rw [Int.toNat_natCast] at hcell
      obtain ⟨y, hy⟩ : ∃ y, rdOf ByteArray.empty l0 kk = y := ⟨_, rfl⟩
      rw [hy] at hcell
      have hyd : l0.getD kk ByteArray.empty = y := by rw [← hy]; simp [rdOf]
      have HY := Aside0.mk hyd
      have hmem : y ∈ l0 := by
        rw [← hyd, List.getD_eq_getElem?_getD, List.getElem?_eq_getElem hlt]
        exact List.getElem_mem hlt
      have hcall := HP.out wr y hmem HIr.out
      clear hy hyd hmem
      cases hq : p y with
      | true =>
        rw [hq] at hcall
        have HQ := Aside0.mk hq
        clear hq
        go_wp2_with (go_at_fn g; refine hcall.mono ?_; rintro e w' ⟨rfl, hI'⟩)
        go_ret
        refine ⟨?_, hI'⟩
        rw [idxP_hit p l0 ByteArray.empty kk hlt (by rw [HY.out]; exact HQ.out) A.out]
        rfl
      | false =>
        rw [hq] at hcall
        have HQ := Aside0.mk hq
        clear hq
        go_wp2_with (go_at_fn g; refine hcall.mono ?_; rintro e w' ⟨rfl, hI'⟩; have HI' := Aside0.mk hI'; clear hI')
        go_roundg (l0.length - (kk + 1))
        case measure => omega
        case rel =>
          refine ⟨kk + 1, by omega, by omega, by go_num, HI', ⟨fun j hj => ?_⟩⟩
          by_cases e : j = kk
          · subst e; rw [HY.out]; exact HQ.out
          · exact A.out j (by omega)
    · have hltz : ¬ (kk : Int) < (l0.length : Int) := by omega
      have e : kk = l0.length := by omega
      subst e
      go_wp2
      go_ret
      refine ⟨?_, HIr.out⟩
      rw [idxP_miss p l0 ByteArray.empty A.out]
      rfl
end Go.Proofs.YtdgfnoekgeipiaaGreatDoor.Q
namespace Go.Proofs.YtdgfnoekgeipiaaGreatDoor.Q
open Go.RowKit Go.Proofs.YtdgfnoekgeipiaaGreatDoorW.PrintWords Go.Proofs.YtdgfnoekgeipiaaGreatDoorW.PrintLast Go.Proofs.YtdgfnoekgeipiaaGreatDoorW.PrintMore
attribute [local go_sem] max2_int min2_int max_two min_two max_three min_three max_four min_four   
set_option linter.unusedVariables false
set_option linter.unusedSimpArgs false
theorem ContainsFuncS.calls (p : ByteArray → Bool) (Inv : World → Prop) (g : Nat) (lb : Array Value) (eg : ∀ args w, (callFunc g args).run Tryz.prog w = .ok (.enter g args) w)
    (A0 : Option Addr) (c0 : Nat) (l0 : List (ByteArray))
    (hR : ∀ W, Inv W → Kd.C Kd.string W A0 l0.length l0)
    (hp : ∀ W x, x ∈ l0 → Inv W → Calls Tryz.prog g (#[.string x] ++ lb) W fun e W' => e = .returned (.bool (p x)) ∧ Inv W')
    (w : World) (hI : Inv w) :
    Calls Tryz.prog 27 #[.slice A0 l0.length c0, .func (.func g) #[] lb] w fun e w' => e = .returned (.bool (l0.any p)) ∧ Inv w' := by
  have hc := IndexFuncS.calls p Inv g lb eg A0 c0 l0 hR hp w hI
  have HE := Aside0.mk (idxP_nonneg p l0)
  generalize idxP p l0 = r at hc HE
  clear hR hp hI
  go_enter Tryz.func27, Tryz.ntmps27
  go_wp2_with (go_at_call 41; refine hc.mono ?_; rintro e w' ⟨rfl, hI'⟩; have HI' := Aside0.mk hI'; clear hI')
  go_ret
  exact ⟨by rw [← HE.out]; rfl, HI'.out⟩
end Go.Proofs.YtdgfnoekgeipiaaGreatDoor.Q
namespace Go.Proofs.YtdgfnoekgeipiaaGreatDoor.Q
open Go.RowKit Go.Proofs.YtdgfnoekgeipiaaGreatDoorW.PrintWords Go.Proofs.YtdgfnoekgeipiaaGreatDoorW.PrintLast Go.Proofs.YtdgfnoekgeipiaaGreatDoorW.PrintMore
attribute [local go_sem] max2_int min2_int max_two min_two max_three min_three max_four min_four   
set_option linter.unusedVariables false
set_option linter.unusedSimpArgs false
def impl_within.f (a0 : Int) (a1 : Int) (a2 : Int) : Option (Bool) := if a1 ≤ a0 then (some (decide (a0 ≤ a2))) else (some false)
set_option maxHeartbeats 8000000 in
set_option maxRecDepth 100000 in
theorem impl_within.calls (a0 : Int) (a1 : Int) (a2 : Int) (r : Bool) (w : World) (hG : GW w) (h : impl_within.f a0 a1 a2 = some r) :
    Calls Tryz.prog 42 #[.int .i64 a0, .int .i64 a1, .int .i64 a2] w fun e w' => e = .returned (.bool r) ∧ Drawn0 w w' := by
  have HG := Aside0.mk hG
  clear hG
  have H : (if a1 ≤ a0 then (some (decide (a0 ≤ a2))) else (some false)) = some r := h
  clear h
  by_cases c4 : a1 ≤ a0
  · rw [if_pos c4] at H
    have c4b0 : decide (a1 ≤ a0) = true := decide_eq_true c4
    clear c4
    obtain rfl := Option.some.inj H
    go_enter Tryz.func42, Tryz.ntmps42
    go_wp2
    go_ret
    exact ⟨by first | rfl | (simp; done) | (simp [*]; done), by repeat (first | exact Drawn0.refl _ | apply Drawn0.step)⟩
  · rw [if_neg c4] at H
    have c4b0 : decide (a1 ≤ a0) = false := decide_eq_false c4
    clear c4
    obtain rfl := Option.some.inj H
    go_enter Tryz.func42, Tryz.ntmps42
    go_wp2
    go_ret
    exact ⟨by first | rfl | (simp; done) | (simp [*]; done), by repeat (first | exact Drawn0.refl _ | apply Drawn0.step)⟩
end Go.Proofs.YtdgfnoekgeipiaaGreatDoor.Q
namespace Go.Proofs.YtdgfnoekgeipiaaGreatDoor.Q
open Go.RowKit Go.Proofs.YtdgfnoekgeipiaaGreatDoorW.PrintWords Go.Proofs.YtdgfnoekgeipiaaGreatDoorW.PrintLast Go.Proofs.YtdgfnoekgeipiaaGreatDoorW.PrintMore
attribute [local go_sem] max2_int min2_int max_two min_two max_three min_three max_four min_four   
set_option linter.unusedVariables false
set_option linter.unusedSimpArgs false
def strings_Trim.f (a0 a1 : ByteArray) : Option ByteArray := if a0.size ≤ 9223372036854775807 ∧ a1.size < 4294967281 ∧ (a1.data.toList.all fun b => decide (b.toNat < 128)) = true then some ⟨(Lib.trimS a0.data.toList a1.data.toList).toArray⟩ else none
theorem strings_Trim.calls (a0 a1 : ByteArray) (r : ByteArray) (w : World) (hG : GW w) (h : strings_Trim.f a0 a1 = some r) :
    Calls Tryz.prog 43 #[.string a0, .string a1] w fun e w' => e = .returned (.string r) ∧ Below w.heap.size w w' := by
  unfold strings_Trim.f at h
  split at h
  case isFalse => exact absurd h (by simp)
  rename_i hc
  obtain rfl := Option.some.inj h
  exact Any.strings_Trim_laid Tryz.lays160 (by kernel_rfl) a0 a1 w hc.1 hc.2.1 (ascii_of_all hc.2.2)
end Go.Proofs.YtdgfnoekgeipiaaGreatDoor.Q
namespace Go.Proofs.YtdgfnoekgeipiaaGreatDoor.Q
open Go.RowKit Go.Proofs.YtdgfnoekgeipiaaGreatDoorW.PrintWords Go.Proofs.YtdgfnoekgeipiaaGreatDoorW.PrintLast Go.Proofs.YtdgfnoekgeipiaaGreatDoorW.PrintMore
attribute [local go_sem] max2_int min2_int max_two min_two max_three min_three max_four min_four   
set_option linter.unusedVariables false
set_option linter.unusedSimpArgs false
def impl_isLineOf.f (a0 : ByteArray) (a1 : Int) : Option (Bool) := (impl_within.f (a0.size : Int) 1 a1).bind fun t176 => (if t176 = true then ((strings_Trim.f a0 (⟨#[46, 70, 84]⟩ : ByteArray)).bind fun t177 => (some (t177.toList == ([] : List UInt8)))) else (some false))
set_option maxHeartbeats 8000000 in
set_option maxRecDepth 100000 in
theorem impl_isLineOf.calls (a0 : ByteArray) (a1 : Int) (r : Bool) (w : World) (hG : GW w) (h : impl_isLineOf.f a0 a1 = some r) :
    Calls Tryz.prog 29 #[.string a0, .int .i64 a1] w fun e w' => e = .returned (.bool r) ∧ Below w.heap.size w w' := by
  have HB := Aside0.mk (Below.refl w.heap.size w)
  have HG := Aside0.mk hG
  clear hG
  have H : ((impl_within.f (a0.size : Int) 1 a1).bind fun t176 => (if t176 = true then ((strings_Trim.f a0 (⟨#[46, 70, 84]⟩ : ByteArray)).bind fun t177 => (some (t177.toList == ([] : List UInt8)))) else (some false))) = some r := h
  clear h
  replace H := Option.bind_eq_some_iff.mp H
  obtain ⟨t176, A30, H⟩ := H
  replace H : (if t176 = true then ((strings_Trim.f a0 (⟨#[46, 70, 84]⟩ : ByteArray)).bind fun t177 => (some (t177.toList == ([] : List UInt8)))) else (some false)) = some r := H
  have A3 := Aside0.mk A30
  clear A30
  by_cases c4 : t176 = true
  · subst c4
    have H1 : ((strings_Trim.f a0 (⟨#[46, 70, 84]⟩ : ByteArray)).bind fun t177 => (some (t177.toList == ([] : List UInt8)))) = some r := by rw [if_pos rfl] at H; exact H
    clear H
    have H := H1
    clear H1
    replace H := Option.bind_eq_some_iff.mp H
    obtain ⟨t177, A50, H⟩ := H
    replace H : (some (t177.toList == ([] : List UInt8))) = some r := H
    have A5 := Aside0.mk A50
    clear A50
    obtain rfl := Option.some.inj H
    go_enter Tryz.func29, Tryz.ntmps29
    go_wp2_with (first | ((with_reducible refine gate_callee (f := 42) rfl ?_); refine goesL_ (some 8) rfl rfl Tryz.func42 (by kernel_rfl) rfl #[.int .i64 (a0.size : Int), .int .i64 1, .int .i64 a1] rfl (by (try simp only [List.map_toArray, List.map_cons, List.map_nil]); first | done | rfl | (simp only [List.length_drop, List.length_take]; rfl)) ?_; (with_reducible refine (impl_within.calls (a0.size : Int) 1 a1 true _ (by first | with_reducible exact HG.out | ((repeat (first | with_reducible exact HG.out | with_reducible apply GW.drewN_ | with_reducible apply GW.drew_)); done) | (apply GW.below_ HG.out; (repeat (first | (with_reducible first | exact HB.out | apply below_alloc | apply pw_below_drewN | apply below_drew1 | refine below_set ?_ (Aside0.out (by assumption))) | exact HB.out)); done)) A3.out).mono ?_); rintro e w' ⟨rfl, ⟨nd, rfl⟩⟩; refine ⟨_, rfl, ?_⟩) | (go_at_call 43; (with_reducible refine (strings_Trim.calls a0 (⟨#[46, 70, 84]⟩ : ByteArray) t177 _ (by first | with_reducible exact HG.out | ((repeat (first | with_reducible exact HG.out | with_reducible apply GW.drewN_ | with_reducible apply GW.drew_)); done) | (apply GW.below_ HG.out; (repeat (first | (with_reducible first | exact HB.out | apply below_alloc | apply pw_below_drewN | apply below_drew1 | refine below_set ?_ (Aside0.out (by assumption))) | exact HB.out)); done)) A5.out).mono ?_); rintro e w6 ⟨rfl, hb⟩; have n0_ := Aside0.mk (below_step (by repeat (first | (with_reducible first | exact HB.out | apply below_alloc | apply pw_below_drewN | apply below_drew1) | exact HB.out)) hb); clear HB; have HB := n0_; clear n0_; (try clear hb); (try clear hb2); (try clear hk); (try clear hi)))
    go_ret
    exact ⟨by first | rfl | (simp [errW_none, errW_some] <;> rfl) | (simp [*, errW_none, errW_some] <;> rfl), by repeat (first | (with_reducible first | exact HB.out | apply below_alloc | apply pw_below_drewN | apply below_drew1) | exact HB.out)⟩
  · replace c4 := Bool.eq_false_iff.mpr c4
    subst c4
    have H1 : (some false) = some r := by rw [if_neg (show ¬ (false = true) by decide)] at H; exact H
    clear H
    have H := H1
    clear H1
    obtain rfl := Option.some.inj H
    go_enter Tryz.func29, Tryz.ntmps29
    go_wp2_with (first | ((with_reducible refine gate_callee (f := 42) rfl ?_); refine goesL_ (some 8) rfl rfl Tryz.func42 (by kernel_rfl) rfl #[.int .i64 (a0.size : Int), .int .i64 1, .int .i64 a1] rfl (by (try simp only [List.map_toArray, List.map_cons, List.map_nil]); first | done | rfl | (simp only [List.length_drop, List.length_take]; rfl)) ?_; (with_reducible refine (impl_within.calls (a0.size : Int) 1 a1 false _ (by first | with_reducible exact HG.out | ((repeat (first | with_reducible exact HG.out | with_reducible apply GW.drewN_ | with_reducible apply GW.drew_)); done) | (apply GW.below_ HG.out; (repeat (first | (with_reducible first | exact HB.out | apply below_alloc | apply pw_below_drewN | apply below_drew1 | refine below_set ?_ (Aside0.out (by assumption))) | exact HB.out)); done)) A3.out).mono ?_); rintro e w' ⟨rfl, ⟨nd, rfl⟩⟩; refine ⟨_, rfl, ?_⟩))
    go_ret
    exact ⟨by first | rfl | (simp [errW_none, errW_some] <;> rfl) | (simp [*, errW_none, errW_some] <;> rfl), by repeat (first | (with_reducible first | exact HB.out | apply below_alloc | apply pw_below_drewN | apply below_drew1) | exact HB.out)⟩
end Go.Proofs.YtdgfnoekgeipiaaGreatDoor.Q
namespace Go.Proofs.YtdgfnoekgeipiaaGreatDoor.Q
open Go.RowKit Go.Proofs.YtdgfnoekgeipiaaGreatDoorW.PrintWords Go.Proofs.YtdgfnoekgeipiaaGreatDoorW.PrintLast Go.Proofs.YtdgfnoekgeipiaaGreatDoorW.PrintMore
attribute [local go_sem] max2_int min2_int max_two min_two max_three min_three max_four min_four   
set_option linter.unusedVariables false
set_option linter.unusedSimpArgs false
end Go.Proofs.YtdgfnoekgeipiaaGreatDoor.Q
namespace Go.Proofs.YtdgfnoekgeipiaaGreatDoor.Q
open Go.RowKit Go.Proofs.YtdgfnoekgeipiaaGreatDoorW.PrintWords Go.Proofs.YtdgfnoekgeipiaaGreatDoorW.PrintLast Go.Proofs.YtdgfnoekgeipiaaGreatDoorW.PrintMore
attribute [local go_sem] max2_int min2_int max_two min_two max_three min_three max_four min_four   
set_option linter.unusedVariables false
set_option linter.unusedSimpArgs false
def impl_IsBoard.p (r0 row : ByteArray) : Option Bool := (impl_isLineOf.f row 5).bind fun b => some (!b || (row.size != r0.size))
def impl_IsBoard.f (a0 : ByteArray) : Option Bool :=
  if 30 < a0.size then some false else (strings_Split.f a0 ⟨#[47]⟩).bind fun rows =>
    if rows.length ≤ 5 then (if (rows.all fun r => (impl_IsBoard.p (rows.getD 0 ByteArray.empty) r).isSome) = true then some (!(rows.any fun r => (impl_IsBoard.p (rows.getD 0 ByteArray.empty) r).getD true)) else none) else some false
def IsBoardInv (w0 : World) (B : Nat) (A : Option Addr) (c : Nat) (rows : List ByteArray) (W : World) : Prop :=
  GW W ∧ W.cell? ⟨B, 0, none⟩ = some (.slice A rows.length c) ∧ Kd.C Kd.string W A rows.length rows ∧ Below w0.heap.size w0 W
set_option maxHeartbeats 4000000 in
theorem impl_IsBoard.closure (w0 : World) (B : Nat) (A : Option Addr) (c : Nat) (rows : List ByteArray) (W : World) (x : ByteArray) (hx : x ∈ rows) (hs : (impl_IsBoard.p (rows.getD 0 ByteArray.empty) x).isSome = true) (hI : IsBoardInv w0 B A c rows W) :
    Calls Tryz.prog 28 (#[.string x] ++ #[.pointer (some ⟨B, 0, none⟩)]) W fun e W' => e = .returned (.bool ((impl_IsBoard.p (rows.getD 0 ByteArray.empty) x).getD true)) ∧ IsBoardInv w0 B A c rows W' := by
  obtain ⟨hG, hc, hR, hB⟩ := hI
  have hpos : 0 < rows.length := List.length_pos_of_mem hx
  obtain ⟨ad, eA, h0⟩ := Kd.at_string hR 0 (Int.le_refl _) (by omega)
  subst eA
  obtain ⟨r0, hr0⟩ : ∃ r, rows.getD 0 ByteArray.empty = r := ⟨_, rfl⟩
  have e0 : rdOf ByteArray.empty rows 0 = r0 := hr0
  rw [e0] at h0
  replace h0 : W.cell? ad = some (.string r0) := h0
  rw [hr0] at hs ⊢
  unfold impl_IsBoard.p at hs ⊢
  cases hb : impl_isLineOf.f x 5 with
  | none => rw [hb] at hs; exact absurd hs (by simp)
  | some b =>
    have hcall := fun W hG => impl_isLineOf.calls x 5 b W hG hb
    have HI := Aside0.mk (show IsBoardInv w0 B (some ad) c rows W from ⟨hG, hc, hR, hB⟩)
    have HG := Aside0.mk hG
    have hn : 0 < (rows.length : Int) := by omega
    clear hb hs hr0 e0 hR hB hG hx
    have hfin : ∀ W', Below W.heap.size W W' → IsBoardInv w0 B (some ad) c rows W' := fun W' hb => ⟨HG.out.below_ hb, pw_cell_below hb hc, Kd.C_below HI.out.2.2.1 hb, below_step HI.out.2.2.2 hb⟩
    have HF := Aside0.mk hfin
    clear hfin
    show Calls Tryz.prog 28 #[.string x, .pointer (some ⟨B, 0, none⟩)] W _
    cases b with
    | false =>
      go_enter Tryz.func28, Tryz.ntmps28
      go_wp2_with (go_at_call 29; refine (hcall _ HG.out).mono ?_; rintro e w' ⟨rfl, hb⟩; have HB := Aside0.mk hb; clear hb)
      go_ret
      exact ⟨rfl, HF.out _ HB.out⟩
    | true =>
      have hw0 := World.block_lt_of_cell? _ _ hc
      have hw1 := World.block_lt_of_cell? _ _ h0
      go_enter Tryz.func28, Tryz.ntmps28
      go_wp2_with (go_at_call 29; refine (hcall _ HG.out).mono ?_; rintro e w' ⟨rfl, hb⟩; have HB := Aside0.mk hb; have hc1 := pw_cell_below hb hc; have h1 := pw_cell_below hb h0; clear hb)
      go_ret
      refine ⟨?_, HF.out _ HB.out⟩
      have e : (x.size != r0.size) = ((x.size : Int) != (r0.size : Int)) := by rw [Bool.eq_iff_iff]; simp; omega
      simp only [Option.bind_some, Option.getD_some, e]
      rfl
set_option maxHeartbeats 4000000 in
theorem impl_IsBoard.calls (a0 : ByteArray) (r : Bool) (w : World) (hG : GW w) (h : impl_IsBoard.f a0 = some r) :
    Calls Tryz.prog 15 #[.string a0] w fun e w' => e = .returned (.bool r) ∧ Below w.heap.size w w' := by
  have eg : ∀ args w, (callFunc 28 args).run Tryz.prog w = .ok (.enter 28 args) w := enters_of Tryz.func28 (by kernel_rfl) rfl
  unfold impl_IsBoard.f at h
  by_cases h30 : 30 < a0.size
  · rw [if_pos h30] at h
    obtain rfl := Option.some.inj h
    have h30' : (30 : Int) < (a0.size : Int) := by omega
    go_enter Tryz.func15, Tryz.ntmps15
    go_wp2
    go_ret
    exact ⟨rfl, Below.refl _ _⟩
  rw [if_neg h30] at h
  have h30' : ¬ (30 : Int) < (a0.size : Int) := by omega
  obtain ⟨rows, hsp, h⟩ := Option.bind_eq_some_iff.1 h
  have hsplit := fun W hG => strings_Split.calls a0 ⟨#[47]⟩ rows W hG hsp
  have HG := Aside0.mk hG
  clear hG hsp
  by_cases h5 : rows.length ≤ 5
  · rw [if_pos h5] at h
    split at h
    case isFalse => exact absurd h (by simp)
    rename_i hall
    obtain ⟨q, hq⟩ : ∃ q, (rows.any fun r => (impl_IsBoard.p (rows.getD 0 ByteArray.empty) r).getD true) = q := ⟨_, rfl⟩
    rw [hq] at h
    have hr := Option.some.inj h
    clear h
    have HQ := Aside0.mk hq
    have HR := Aside0.mk hr
    have HALL := Aside0.mk hall
    have h5' : decide ((rows.length : Int) ≤ 5) = true := decide_eq_true (by omega)
    have h5'' : decide (rows.length ≤ 5) = true := decide_eq_true (by omega)
    clear hq hr hall h5
    go_enter Tryz.func15, Tryz.ntmps15
    go_wp2_with (go_at_call 26; refine (hsplit _ HG.out).mono ?_; rintro e w1 ⟨v, rfl, hO, hb⟩; have HO := Aside0.mk hO; have HB := Aside0.mk hb; clear hO hb; obtain ⟨A, c, rfl⟩ := Kd.R_slice HO.out)
    have HI : Aside0 (IsBoardInv w w1.heap.size A c rows (w1.alloc (.cells #[.slice A rows.length c] 32))) := ⟨(HG.out.below_ HB.out).alloc_ _, by go_simp, Kd.C_below (Kd.R_reads' HO.out).2.2 (below_alloc (Below.refl _ _) _), below_alloc HB.out _⟩
    refine (ContainsFuncS.calls (fun r => (impl_IsBoard.p (rows.getD 0 ByteArray.empty) r).getD true) (IsBoardInv w w1.heap.size A c rows) 28 #[.pointer (some ⟨w1.heap.size, 0, none⟩)] eg A c rows (fun W hI => hI.2.2.1) (fun W x hx hI => impl_IsBoard.closure w w1.heap.size A c rows W x hx (List.all_eq_true.1 HALL.out x hx) hI) _ HI.out).mono ?_
    rintro e w' ⟨rfl, hI'⟩
    have HI' := Aside0.mk hI'
    clear hI'
    rw [HQ.out]
    go_wp2
    go_ret
    exact ⟨by rw [← HR.out]; rfl, HI'.out.2.2.2⟩
  · rw [if_neg h5] at h
    obtain rfl := Option.some.inj h
    have h5' : decide ((rows.length : Int) ≤ 5) = false := decide_eq_false (by omega)
    have h5'' : decide (rows.length ≤ 5) = false := decide_eq_false (by omega)
    go_enter Tryz.func15, Tryz.ntmps15
    go_wp2_with (go_at_call 26; refine (hsplit _ HG.out).mono ?_; rintro e w1 ⟨v, rfl, hO, hb⟩; have HO := Aside0.mk hO; have HB := Aside0.mk hb; clear hO hb; obtain ⟨A, c, rfl⟩ := Kd.R_slice HO.out)
    go_ret
    exact ⟨rfl, below_alloc HB.out _⟩
end Go.Proofs.YtdgfnoekgeipiaaGreatDoor.Q
namespace Go.Proofs.YtdgfnoekgeipiaaGreatDoor.Q
open Go.RowKit Go.Proofs.YtdgfnoekgeipiaaGreatDoorW.PrintWords Go.Proofs.YtdgfnoekgeipiaaGreatDoorW.PrintLast Go.Proofs.YtdgfnoekgeipiaaGreatDoorW.PrintMore
attribute [local go_sem] max2_int min2_int max_two min_two max_three min_three max_four min_four   
set_option linter.unusedVariables false
set_option linter.unusedSimpArgs false
def strings_Index.f (a0 a1 : ByteArray) : Option Int := if a0.size < 4294967281 then some (Lib.index a0.data.toList a1.data.toList) else none
theorem strings_Index.calls (a0 a1 : ByteArray) (r : Int) (w : World) (hG : GW w) (h : strings_Index.f a0 a1 = some r) :
    Calls Tryz.prog 30 #[.string a0, .string a1] w fun e w' => e = .returned (.int .i64 r) ∧ Drawn0 w w' := by
  unfold strings_Index.f at h
  split at h
  case isFalse => exact absurd h (by simp)
  rename_i hc
  obtain rfl := Option.some.inj h
  obtain ⟨m, hm⟩ := hG.maxLen
  refine (Tryz.strings_Index a0 a1 m w hc hm).mono ?_
  rintro e w' ⟨rfl, rfl⟩
  exact ⟨rfl, Drawn0.refl _⟩
end Go.Proofs.YtdgfnoekgeipiaaGreatDoor.Q
namespace Go.Proofs.YtdgfnoekgeipiaaGreatDoor.Q
open Go.RowKit Go.Proofs.YtdgfnoekgeipiaaGreatDoorW.PrintWords Go.Proofs.YtdgfnoekgeipiaaGreatDoorW.PrintLast Go.Proofs.YtdgfnoekgeipiaaGreatDoorW.PrintMore
attribute [local go_sem] max2_int min2_int max_two min_two max_three min_three max_four min_four   
set_option linter.unusedVariables false
set_option linter.unusedSimpArgs false
def strings_ReplaceAll.f (a0 a1 a2 : ByteArray) : Option ByteArray := if a0.size < 4294967281 ∧ 1 ≤ a1.size ∧ a0.size + Lib.countB a0 a1 * a2.size ≤ 140737488355328 then some ⟨(Lib.replaceAll a0.data.toList a1.data.toList a2.data.toList).toArray⟩ else none
theorem strings_ReplaceAll.calls (a0 a1 a2 : ByteArray) (r : ByteArray) (w : World) (hG : GW w) (h : strings_ReplaceAll.f a0 a1 a2 = some r) :
    Calls Tryz.prog 31 #[.string a0, .string a1, .string a2] w fun e w' => e = .returned (.string r) ∧ Below w.heap.size w w' := by
  unfold strings_ReplaceAll.f at h
  split at h
  case isFalse => exact absurd h (by simp)
  rename_i hc
  obtain rfl := Option.some.inj h
  obtain ⟨m, hm⟩ := hG.maxLen
  exact Tryz.strings_ReplaceAll a0 a1 a2 m w hc.1 hm hc.2.1 hc.2.2
end Go.Proofs.YtdgfnoekgeipiaaGreatDoor.Q
namespace Go.Proofs.YtdgfnoekgeipiaaGreatDoor.Q
open Go.RowKit Go.Proofs.YtdgfnoekgeipiaaGreatDoorW.PrintWords Go.Proofs.YtdgfnoekgeipiaaGreatDoorW.PrintLast Go.Proofs.YtdgfnoekgeipiaaGreatDoorW.PrintMore
attribute [local go_sem] max2_int min2_int max_two min_two max_three min_three max_four min_four   
set_option linter.unusedVariables false
set_option linter.unusedSimpArgs false
def impl_boardOf.f (a0 : ByteArray) : Option (ByteArray × Int) := if a0.size + 1 ≤ 9223372036854775807 then ((strings_Index.f (a0 ++ (⟨#[47]⟩ : ByteArray)) (⟨#[47]⟩ : ByteArray)).bind fun t179 => ((strings_ReplaceAll.f a0 (⟨#[47]⟩ : ByteArray) (⟨#[]⟩ : ByteArray)).bind fun t180 => (some (t180, t179)))) else (none)
set_option maxHeartbeats 8000000 in
set_option maxRecDepth 100000 in
theorem impl_boardOf.calls (a0 : ByteArray) (r1 : ByteArray) (r2 : Int) (w : World) (hG : GW w) (h : impl_boardOf.f a0 = some (r1, r2)) :
    Calls Tryz.prog 16 #[.string a0] w fun e w' => e = .returned (.agg #[.string r1, .int .i64 r2]) ∧ Below w.heap.size w w' := by
  have hu43 := Tryz.underlying43
  have HB := Aside0.mk (Below.refl w.heap.size w)
  have HG := Aside0.mk hG
  clear hG
  have H : (if a0.size + 1 ≤ 9223372036854775807 then ((strings_Index.f (a0 ++ (⟨#[47]⟩ : ByteArray)) (⟨#[47]⟩ : ByteArray)).bind fun t179 => ((strings_ReplaceAll.f a0 (⟨#[47]⟩ : ByteArray) (⟨#[]⟩ : ByteArray)).bind fun t180 => (some (t180, t179)))) else (none)) = some (r1, r2) := h
  clear h
  by_cases c2 : a0.size + 1 ≤ 9223372036854775807
  · rw [if_pos c2] at H
    have c2b0 := eq_true c2
    have c2b1 : decide (a0.size + 1 ≤ 9223372036854775807) = true := decide_eq_true c2
    try have c2b2 : (9223372036854775807 < a0.size + 1) = False := eq_false (Nat.not_lt.2 c2)
    replace H := Option.bind_eq_some_iff.mp H
    obtain ⟨t179, A30, H⟩ := H
    replace H : ((strings_ReplaceAll.f a0 (⟨#[47]⟩ : ByteArray) (⟨#[]⟩ : ByteArray)).bind fun t180 => (some (t180, t179))) = some (r1, r2) := H
    have A3 := Aside0.mk A30
    clear A30
    replace H := Option.bind_eq_some_iff.mp H
    obtain ⟨t180, A40, H⟩ := H
    replace H : (some (t180, t179)) = some (r1, r2) := H
    have A4 := Aside0.mk A40
    clear A40
    simp only [Option.some.injEq, Prod.mk.injEq] at H
    obtain ⟨rfl, rfl⟩ := H
    go_enter Tryz.func16, Tryz.ntmps16
    go_wp2_with (first | ((with_reducible refine gate_dst (N := 2) rfl ?_); refine box_event ?hg (N := 2) ?hd (cs := #[.string (⟨#[]⟩ : ByteArray), .int .i64 0]) (t := 43) ?hr ?_; (case hd => rfl); (case hg => rfl); (case hr => first | (go_simp; done) | (go_simp; rfl)); intro gb178 hg w5 hbox hb; have n0_ := Aside0.mk (below_step (by repeat (first | (with_reducible first | exact HB.out | apply below_alloc | apply pw_below_drewN | apply below_drew1) | exact HB.out)) hb); have n1_ := Aside0.mk (hbox); have n2_ := Aside0.mk ((by rw [hg]; exact (below_size (by repeat (first | (with_reducible first | exact HB.out | apply below_alloc | apply pw_below_drewN | apply below_drew1) | exact HB.out))) : w.heap.size ≤ gb178)); have n3_ := Aside0.mk ((by rw [hg]; exact (below_size (by repeat (first | (with_reducible first | exact HB.out | apply below_alloc | apply pw_below_drewN | apply below_drew1) | exact HB.out))) : w.heap.size ≤ gb178)); clear HB; have HB := n0_; have BK178 := n1_; have GW178 := n2_; have GE178 := n3_; clear n0_ n1_ n2_ n3_; clear hb hbox hg) | ((with_reducible refine gate_callee (f := 30) rfl ?_); refine goesL_ (some 6) rfl rfl Tryz.func30 (by kernel_rfl) rfl #[.string (a0 ++ (⟨#[47]⟩ : ByteArray)), .string (⟨#[47]⟩ : ByteArray)] rfl (by (try simp only [List.map_toArray, List.map_cons, List.map_nil]); first | done | rfl | (simp only [List.length_drop, List.length_take]; rfl)) ?_; (with_reducible refine (strings_Index.calls (a0 ++ (⟨#[47]⟩ : ByteArray)) (⟨#[47]⟩ : ByteArray) t179 _ (by first | with_reducible exact HG.out | ((repeat (first | with_reducible exact HG.out | with_reducible apply GW.drewN_ | with_reducible apply GW.drew_)); done) | (apply GW.below_ HG.out; (repeat (first | (with_reducible first | exact HB.out | apply below_alloc | apply pw_below_drewN | apply below_drew1 | refine below_set ?_ (Aside0.out (by assumption))) | exact HB.out)); done)) A3.out).mono ?_); rintro e w' ⟨rfl, ⟨nd, rfl⟩⟩; refine ⟨_, rfl, ?_⟩; (try (rw [drewN_self w5]; generalize hq_ : World.drewN w5 _ = w5; have n0_ : Aside0 (w5.heap[gb178]? = some (.cells #[.string (⟨#[]⟩ : ByteArray), .int .i64 0] 43 (0, 0))) := ⟨by rw [← hq_]; exact (by (with_reducible repeat (first | refine blk_drewN ?_ _ | refine blk_drew ?_ | refine blk_alloc ?_ _)); exact BK178.out)⟩; have n1_ : Aside0 (Below w.heap.size w w5) := ⟨by rw [← hq_]; exact (by repeat (first | (with_reducible first | exact HB.out | apply below_alloc | apply pw_below_drewN | apply below_drew1 | refine below_set ?_ GE178.out) | exact HB.out))⟩; clear BK178 HB hq_; have BK178 := n0_; have HB := n1_; clear n0_ n1_))) | ((with_reducible refine gate_callee (f := 31) rfl ?_); refine goesL_ (some 8) rfl rfl Tryz.func31 (by kernel_rfl) rfl #[.string a0, .string (⟨#[47]⟩ : ByteArray), .string (⟨#[]⟩ : ByteArray)] rfl (by (try simp only [List.map_toArray, List.map_cons, List.map_nil]); first | done | rfl | (simp only [List.length_drop, List.length_take]; rfl)) ?_; (with_reducible refine (strings_ReplaceAll.calls a0 (⟨#[47]⟩ : ByteArray) (⟨#[]⟩ : ByteArray) t180 _ (by first | with_reducible exact HG.out | ((repeat (first | with_reducible exact HG.out | with_reducible apply GW.drewN_ | with_reducible apply GW.drew_)); done) | (apply GW.below_ HG.out; (repeat (first | (with_reducible first | exact HB.out | apply below_alloc | apply pw_below_drewN | apply below_drew1 | refine below_set ?_ (Aside0.out (by assumption))) | exact HB.out)); done)) A4.out).mono ?_); rintro e w6 ⟨rfl, hb⟩; refine ⟨_, rfl, ?_⟩; have n0_ := Aside0.mk (blk_below (g := gb178) (o := .cells #[.string (⟨#[]⟩ : ByteArray), .int .i64 0] 43 (0, 0)) (by (with_reducible repeat (first | refine blk_drewN ?_ _ | refine blk_drew ?_ | refine blk_alloc ?_ _)); exact BK178.out) hb); have n1_ := Aside0.mk (below_step (by repeat (first | (with_reducible first | exact HB.out | apply below_alloc | apply pw_below_drewN | apply below_drew1 | refine below_set ?_ GE178.out) | exact HB.out)) hb); clear BK178; clear HB; have BK178 := n0_; have HB := n1_; clear n0_ n1_; (try clear hb); (try clear hb2); (try clear hk); (try clear hi); have hcz7_0 : w6.cell? ⟨gb178, 0, none⟩ = some (.string (⟨#[]⟩ : ByteArray)) := (blk_cell BK178.out 0).trans rfl; have hcz7_1 : w6.cell? ⟨gb178, 1, none⟩ = some (.int .i64 0) := (blk_cell BK178.out 1).trans rfl; have hfz7_0 := blk_frozen BK178.out 0; have hfz7_1 := blk_frozen BK178.out 1))
    refine bodyPost_ret (results_cell_row rfl _ _ gb178 43 #[.string t180, .int .i64 t179] (0, 0) _ rfl (by (with_reducible repeat (first | refine blk_drewN ?_ _ | refine blk_drew ?_ | refine blk_alloc ?_ _)); refine blk_put (cs := #[.string t180, .int .i64 0]) ?_ 1 _ rfl; (with_reducible repeat (first | refine blk_drewN ?_ _ | refine blk_drew ?_ | refine blk_alloc ?_ _)); refine blk_put (cs := #[.string (⟨#[]⟩ : ByteArray), .int .i64 0]) ?_ 0 _ rfl; (with_reducible repeat (first | refine blk_drewN ?_ _ | refine blk_drew ?_ | refine blk_alloc ?_ _)); exact BK178.out) Tryz.underlying43 rfl (by kernel_rfl)) rfl ?_
    exact ⟨by first | rfl | (simp [errW_none, errW_some] <;> rfl) | (simp [*, errW_none, errW_some] <;> rfl), by repeat (first | (with_reducible first | exact HB.out | apply below_alloc | apply pw_below_drewN | apply below_drew1 | refine below_set ?_ GE178.out) | exact HB.out)⟩
  · rw [if_neg c2] at H
    exact absurd H (by simp)
end Go.Proofs.YtdgfnoekgeipiaaGreatDoor.Q
namespace Go.Proofs.YtdgfnoekgeipiaaGreatDoor.Q
open Go.RowKit Go.Proofs.YtdgfnoekgeipiaaGreatDoorW.PrintWords Go.Proofs.YtdgfnoekgeipiaaGreatDoorW.PrintLast Go.Proofs.YtdgfnoekgeipiaaGreatDoorW.PrintMore
attribute [local go_sem] max2_int min2_int max_two min_two max_three min_three max_four min_four   
set_option linter.unusedVariables false
set_option linter.unusedSimpArgs false
def madeL (l : List Int) (m0 m1 : Int) : List Int := (l.set m1.toNat (rd l m0)).set m0.toNat 46
def impl_made.f (s : ByteArray) (m0 m1 : Int) : Option ByteArray := if 0 ≤ m0 ∧ m0 < s.size ∧ 0 ≤ m1 ∧ m1 < s.size ∧ s.size ≤ 140737488351232 then some (strOfNums (madeL (bytesOf s) m0 m1)) else none
set_option maxHeartbeats 4000000 in
set_option maxRecDepth 100000 in
theorem impl_made.calls (s : ByteArray) (m0 m1 : Int) (r : ByteArray) (w : World) (hG : GW w) (h : impl_made.f s m0 m1 = some r) :
    Calls Tryz.prog 46 #[.string s, .agg #[.int .i64 m0, .int .i64 m1]] w fun e w' => e = .returned (.string r) ∧ Below w.heap.size w w' := by
  unfold impl_made.f at h
  split at h
  case isFalse => exact absurd h (by simp)
  rename_i hc
  obtain ⟨h0, h0', h1, h1', hs⟩ := hc
  obtain rfl := Option.some.inj h
  clear h
  have kb := fun W => print_bytes (P := Tryz.prog) 9 84 5 Tryz.underlying9 Tryz.underlying84 Tryz.underlying5 s W
  go_enter Tryz.func46, Tryz.ntmps46
  go_wp2
  clear kb
  have hsz := Lib.bytesWorld_size (w.alloc (Obj.cells #[Value.int IntKind.i64 m0, Value.int IntKind.i64 m1] 38)) 5 s
  have hR := BRow.bytes (w.alloc (Obj.cells #[Value.int IntKind.i64 m0, Value.int IntKind.i64 m1] 38)) 5 s
  have hB := bytes_below (below_alloc (Below.refl _ w) (Obj.cells #[Value.int IntKind.i64 m0, Value.int IntKind.i64 m1] 38)) (by simp) 5 s
  have c0 : (Lib.bytesWorld (w.alloc (Obj.cells #[Value.int IntKind.i64 m0, Value.int IntKind.i64 m1] 38)) 5 s).cell? ⟨w.heap.size, 0, none⟩ = some (.int .i64 m0) := by
    rw [Lib.bytesWorld_old _ _ _ _ (by simp)]; go_simp
  have c1 : (Lib.bytesWorld (w.alloc (Obj.cells #[Value.int IntKind.i64 m0, Value.int IntKind.i64 m1] 38)) 5 s).cell? ⟨w.heap.size, 1, none⟩ = some (.int .i64 m1) := by
    rw [Lib.bytesWorld_old _ _ _ _ (by simp)]; go_simp
  have e1 : (w.alloc (Obj.cells #[Value.int IntKind.i64 m0, Value.int IntKind.i64 m1] 38)).heap.size = w.heap.size + 1 := by simp
  rw [e1] at hsz hR
  generalize (grownCap (w.alloc (Obj.cells #[Value.int IntKind.i64 m0, Value.int IntKind.i64 m1] 38)) s.size 0 5) = c
  generalize Lib.bytesWorld (w.alloc (Obj.cells #[Value.int IntKind.i64 m0, Value.int IntKind.i64 m1] 38)) 5 s = W at *
  clear e1 hsz
  have hl := bytesOf_length s
  obtain ⟨k0, f0⟩ := hR.at_ m0 h0 (by omega)
  obtain ⟨k1, f1⟩ := hR.at_ m1 h1 (by omega)
  have hR1 := hR.set m1 h1 (by omega) (rd (bytesOf s) m0)
  have hR2 := hR1.set m0 h0 (by rw [List.length_set]; omega) 46
  obtain ⟨k2, f2⟩ := hR1.at_ m0 h0 (by rw [List.length_set]; omega)
  have hcv := hR2.drew.string (P := Tryz.prog) 84 5 9 Tryz.underlying84 Tryz.underlying5 Tryz.underlying9 s.size c (by simp [hl])
  have hB2 : Below w.heap.size w ((W.setCell ⟨w.heap.size + 1, m1.toNat, none⟩ (.int .u8 (rd (bytesOf s) m0))).setCell ⟨w.heap.size + 1, m0.toNat, none⟩ (.int .u8 46)).drew := ((hB.setCell (by simp) _).setCell (by simp) _).drew
  have HB2 := Aside0.mk hB2
  clear hR hR1 hR2 hB hB2 hl
  go_region
  all_goals go_wp2
  all_goals go_ret
  all_goals exact ⟨rfl, HB2.out⟩
end Go.Proofs.YtdgfnoekgeipiaaGreatDoor.Q
namespace Go.Proofs.YtdgfnoekgeipiaaGreatDoor.Q
open Go.RowKit Go.Proofs.YtdgfnoekgeipiaaGreatDoorW.PrintWords Go.Proofs.YtdgfnoekgeipiaaGreatDoorW.PrintLast Go.Proofs.YtdgfnoekgeipiaaGreatDoorW.PrintMore
attribute [local go_sem] max2_int min2_int max_two min_two max_three min_three max_four min_four   
set_option linter.unusedVariables false
set_option linter.unusedSimpArgs false
def playedF (can : ByteArray → S38 → Option Bool) : ByteArray → List S38 → Int → Option (ByteArray × Int)
  | s, [], k => some (s, k)
  | s, m :: l, k => (can s m).bind fun b => if b = true then (impl_made.f s m.f0 m.f1).bind fun s' => playedF can s' l (k + 1) else some (⟨#[]⟩, k)
set_option maxHeartbeats 4000000 in
theorem impl_played.calls (can : ByteArray → S38 → Option Bool) (Inv : World → Prop) (hInv : ∀ W W' : World, Inv W → Below W.heap.size W W' → Inv W') (hGI : ∀ W, Inv W → GW W) (g : Nat) (lb : Array Value) (eg : ∀ args w, (callFunc g args).run Tryz.prog w = .ok (.enter g args) w)
    (hcan : ∀ (W : World) (s : ByteArray) (m : S38) (b : Bool), Inv W → can s m = some b → Calls Tryz.prog g (#[.string s, .agg #[.int .i64 m.f0, .int .i64 m.f1]] ++ lb) W fun e W' => e = .returned (.bool b) ∧ Below W.heap.size W W')
    (A : Option Addr) (c : Nat) (l : List S38) (s r : ByteArray) (n : Int) (w : World) (hI : Inv w) (hr : Kd.C k38 w A l.length l) (h : playedF can s l 0 = some (r, n)) :
    Calls Tryz.prog 32 #[.string s, .slice A l.length c, .func (.func g) #[] lb] w fun e w' => e = .returned (.tuple #[.string r, .int .i64 n]) ∧ Below w.heap.size w w' := by
  have HI := Aside0.mk hI
  have HR := Aside0.mk hr
  have HC := Aside0.mk hcan
  have HINV := Aside0.mk hInv
  have HGI := Aside0.mk hGI
  have H := Aside0.mk h
  have hbig : l.length ≤ 9223372036854775807 := hr.2.1
  have kmade := fun (s : ByteArray) (m0 m1 : Int) (r : ByteArray) (W : World) hG h => impl_made.calls s m0 m1 r W hG h
  have KM := Aside0.mk kmade
  clear hI hr hcan hInv hGI h kmade
  go_enter Tryz.func32, Tryz.ntmps32
  go_wp2
  go_loopg [0, 12] l.length (fun gg s0 s12 wr => ∃ (kk : Nat) (s' : ByteArray), kk ≤ l.length ∧ l.length - kk ≤ gg ∧ s0 = .string s' ∧ s12 = .int .i64 kk ∧ Aside0 (Inv wr) ∧ Aside0 (Below w.heap.size w wr) ∧ Aside0 (playedF can s' (l.drop kk) kk = some (r, n)))
  case atStart => exact ⟨0, s, Nat.zero_le _, by omega, rfl, rfl, HI, ⟨Below.refl _ _⟩, ⟨H.out⟩⟩
  case round =>
    obtain ⟨kk, s', hkk, hg, rfl, rfl, HIr, HB, HP⟩ := hrel
    by_cases hlt : kk < l.length
    · have hltz : (kk : Int) < (l.length : Int) := by omega
      obtain ⟨m, hm⟩ : ∃ m, l[kk]'hlt = m := ⟨_, rfl⟩
      have hdrop : l.drop kk = m :: l.drop (kk + 1) := by rw [← hm]; exact List.drop_eq_getElem_cons hlt
      have HP1 := HP.out
      rw [hdrop] at HP1
      simp only [playedF] at HP1
      obtain ⟨b, hb, HP2⟩ := Option.bind_eq_some_iff.1 HP1
      obtain ⟨ad, e, hc0, hc1⟩ := at_T38 (Kd.C_below HR.out HB.out) kk (by omega) hltz
      subst e
      have hrd : rd_T38 l kk = m := by
        rw [← hm]
        simp [rd_T38, List.getD_eq_getElem?_getD, hlt]
      rw [hrd, Int.toNat_natCast] at hc0 hc1
      have HBB := Aside0.mk hb
      have HP3 := Aside0.mk HP2
      clear hdrop HP1 HP2 hb hm hrd
      have hcall := fun W (hI : Inv W) => HC.out W s' m b hI HBB.out
      have HCALL := Aside0.mk hcall
      clear hcall
      cases b with
      | false =>
        obtain ⟨rfl, rfl⟩ := Prod.mk.inj (Option.some.inj HP3.out)
        go_wp2_with (go_at_fn g; refine (HCALL.out _ (HINV.out _ _ HIr.out (below_alloc (Below.refl _ _) _))).mono ?_; rintro e w1 ⟨rfl, hb1⟩; have HB1 := Aside0.mk hb1; clear hb1)
        go_ret2
        exact ⟨rfl, below_step (below_alloc HB.out _) HB1.out⟩
      | true =>
        obtain ⟨s2, hm2, hp2⟩ := Option.bind_eq_some_iff.1 HP3.out
        have HM2 := Aside0.mk hm2
        have HP2 := Aside0.mk hp2
        clear hm2 hp2
        go_wp2_with (first | (go_at_fn g; refine (HCALL.out _ (HINV.out _ _ HIr.out (below_alloc (Below.refl _ _) _))).mono ?_; rintro e w1 ⟨rfl, hb1⟩; have hx0 : w1.cell? ⟨wr.heap.size, 0, none⟩ = some (.int .i64 m.f0) := pw_cell_below hb1 (by go_simp); have hx1 : w1.cell? ⟨wr.heap.size, 1, none⟩ = some (.int .i64 m.f1) := pw_cell_below hb1 (by go_simp); have hlt1 := World.block_lt_of_cell? _ _ hx0; have HB1 := Aside0.mk hb1; clear hb1) | (go_at_call 46; refine (KM.out s' m.f0 m.f1 s2 _ (HGI.out _ (HINV.out _ _ (HINV.out _ _ HIr.out (below_alloc (Below.refl _ _) _)) HB1.out)) HM2.out).mono ?_; rintro e w2 ⟨rfl, hb2⟩; have HB2 := Aside0.mk hb2; clear hb2))
        go_roundg (l.length - (kk + 1))
        case measure => omega
        case rel =>
          refine ⟨kk + 1, s2, by omega, by omega, rfl, by go_num, ⟨HINV.out _ _ (HINV.out _ _ (HINV.out _ _ HIr.out (below_alloc (Below.refl _ _) _)) HB1.out) HB2.out⟩, ⟨below_step (below_step (below_alloc HB.out _) HB1.out) HB2.out⟩, ⟨?_⟩⟩
          have := HP2.out
          rw [Int.natCast_succ]
          exact this
    · have hltz : ¬ (kk : Int) < (l.length : Int) := by omega
      have e : kk = l.length := by omega
      subst e
      have e2 : playedF can s' [] l.length = some (r, n) := by have := HP.out; rwa [List.drop_length] at this
      simp only [playedF] at e2
      obtain ⟨rfl, rfl⟩ := Prod.mk.inj (Option.some.inj e2)
      clear e2
      go_wp2
      go_ret2
      exact ⟨rfl, HB.out⟩
end Go.Proofs.YtdgfnoekgeipiaaGreatDoor.Q
namespace Go.Proofs.YtdgfnoekgeipiaaGreatDoor.Q
open Go.RowKit Go.Proofs.YtdgfnoekgeipiaaGreatDoorW.PrintWords Go.Proofs.YtdgfnoekgeipiaaGreatDoorW.PrintLast Go.Proofs.YtdgfnoekgeipiaaGreatDoorW.PrintMore
attribute [local go_sem] max2_int min2_int max_two min_two max_three min_three max_four min_four   
set_option linter.unusedVariables false
set_option linter.unusedSimpArgs false
attribute [local go_sem high] eqA38
def impl_Move_47.l0 : Nat → List (S38) → Int → Int → Int → Int → Option (Int)
  | 0, _, _, _, _, _ => none
  | k + 1, x0, x7, x8, x182000, x182001 => if x8 < x7 then (if 0 ≤ x8 then (if x8 < (x0.length : Int) then (if (x182000 == ((rd_T38 x0 x8).f0) && (x182001 == ((rd_T38 x0 x8).f1))) = true then (some x8) else (impl_Move_47.l0 k x0 x7 (wrap64 (x8 + 1)) x182000 x182001)) else (none)) else (none)) else (some (-1))
def impl_Move_47.f (k : Nat) (l0 : List (S38)) (a1_0 : Int) (a1_1 : Int) : Option (Int) := impl_Move_47.l0 k l0 (l0.length : Int) 0 a1_0 a1_1
set_option maxHeartbeats 8000000 in
set_option maxRecDepth 100000 in
theorem impl_Move_47.calls (k : Nat) (A0 : Option Addr) (c0 : Nat) (l0 : List (S38)) (a1_0 : Int) (a1_1 : Int) (r : Int) (w : World) (hG : GW w) (hr0 : Kd.C k38 w A0 l0.length l0) (hc0 : l0.length ≤ c0) (h : impl_Move_47.f k l0 a1_0 a1_1 = some r) :
    Calls Tryz.prog 47 #[.slice A0 l0.length c0, .agg #[.int .i64 a1_0, .int .i64 a1_1]] w fun e w' => e = .returned (.int .i64 r) ∧ Below w.heap.size w w' := by
  have hu38 := Tryz.underlying38
  have HR0 := Aside0.mk hr0
  have HC0 := Aside0.mk hc0
  clear hr0 hc0
  have HB := Aside0.mk (Below.refl w.heap.size w)
  have HG := Aside0.mk hG
  clear hG
  have H : (impl_Move_47.l0 k l0 (l0.length : Int) 0 a1_0 a1_1) = some r := h
  clear h
  have H' := Aside0.mk H
  clear H
  go_enter Tryz.func47, Tryz.ntmps47
  go_wp2_with (first | ((with_reducible refine gate_dst (N := 3) rfl ?_); refine box_event ?hg (N := 3) ?hd (cs := #[.int .i64 a1_0, .int .i64 a1_1]) (t := 38) ?hr ?_; (case hd => rfl); (case hg => rfl); (case hr => first | (go_simp; done) | (go_simp; rfl)); intro gb181 hg w3 hbox hb; have n0_ := Aside0.mk (below_step (by repeat (first | (with_reducible first | exact HB.out | apply below_alloc | apply pw_below_drewN | apply below_drew1) | exact HB.out)) hb); have n1_ := Aside0.mk (hbox); have n2_ := Aside0.mk ((by rw [hg]; exact (below_size (by repeat (first | (with_reducible first | exact HB.out | apply below_alloc | apply pw_below_drewN | apply below_drew1) | exact HB.out))) : w.heap.size ≤ gb181)); have n3_ := Aside0.mk ((by rw [hg]; exact (below_size (by repeat (first | (with_reducible first | exact HB.out | apply below_alloc | apply pw_below_drewN | apply below_drew1) | exact HB.out))) : w.heap.size ≤ gb181)); clear HB; have HB := n0_; have BK181 := n1_; have GW181 := n2_; have GE181 := n3_; clear n0_ n1_ n2_ n3_; clear hb hbox hg))
  repeat (go_quiet (first | ((with_reducible refine gate_dst (N := 3) rfl ?_); refine box_event ?hg (N := 3) ?hd (cs := #[.int .i64 a1_0, .int .i64 a1_1]) (t := 38) ?hr ?_; (case hd => rfl); (case hg => rfl); (case hr => first | (go_simp; done) | (go_simp; rfl)); intro gb181 hg w3 hbox hb; have n0_ := Aside0.mk (below_step (by repeat (first | (with_reducible first | exact HB.out | apply below_alloc | apply pw_below_drewN | apply below_drew1) | exact HB.out)) hb); have n1_ := Aside0.mk (hbox); have n2_ := Aside0.mk ((by rw [hg]; exact (below_size (by repeat (first | (with_reducible first | exact HB.out | apply below_alloc | apply pw_below_drewN | apply below_drew1) | exact HB.out))) : w.heap.size ≤ gb181)); have n3_ := Aside0.mk ((by rw [hg]; exact (below_size (by repeat (first | (with_reducible first | exact HB.out | apply below_alloc | apply pw_below_drewN | apply below_drew1) | exact HB.out))) : w.heap.size ≤ gb181)); clear HB; have HB := n0_; have BK181 := n1_; have GW181 := n2_; have GE181 := n3_; clear n0_ n1_ n2_ n3_; clear hb hbox hg)); try go_wp2_with (first | ((with_reducible refine gate_dst (N := 3) rfl ?_); refine box_event ?hg (N := 3) ?hd (cs := #[.int .i64 a1_0, .int .i64 a1_1]) (t := 38) ?hr ?_; (case hd => rfl); (case hg => rfl); (case hr => first | (go_simp; done) | (go_simp; rfl)); intro gb181 hg w3 hbox hb; have n0_ := Aside0.mk (below_step (by repeat (first | (with_reducible first | exact HB.out | apply below_alloc | apply pw_below_drewN | apply below_drew1) | exact HB.out)) hb); have n1_ := Aside0.mk (hbox); have n2_ := Aside0.mk ((by rw [hg]; exact (below_size (by repeat (first | (with_reducible first | exact HB.out | apply below_alloc | apply pw_below_drewN | apply below_drew1) | exact HB.out))) : w.heap.size ≤ gb181)); have n3_ := Aside0.mk ((by rw [hg]; exact (below_size (by repeat (first | (with_reducible first | exact HB.out | apply below_alloc | apply pw_below_drewN | apply below_drew1) | exact HB.out))) : w.heap.size ≤ gb181)); clear HB; have HB := n0_; have BK181 := n1_; have GW181 := n2_; have GE181 := n3_; clear n0_ n1_ n2_ n3_; clear hb hbox hg)))
  go_loopg [8] k (fun kq v8 w' => ∃ (x8_1 : Int), v8 = .int .i64 x8_1 ∧ Aside0 (impl_Move_47.l0 kq l0 (l0.length : Int) x8_1 a1_0 a1_1 = some r) ∧ Aside0 (kq ≤ k) ∧ Aside0 (w'.heap[gb181]? = some (.cells #[.int .i64 a1_0, .int .i64 a1_1] 38 (0, 0))) ∧ Aside0 (Below w.heap.size w w'))
  case atStart => exact ⟨(0), (by first | rfl | (simp; done) | (simp [*]; done)), H', ⟨Nat.le_refl _⟩, ⟨by (with_reducible repeat (first | refine blk_drewN ?_ _ | refine blk_drew ?_ | refine blk_alloc ?_ _)); exact BK181.out⟩, ⟨by repeat (first | (with_reducible first | exact HB.out | apply below_alloc | apply pw_below_drewN | apply below_drew1 | refine below_set ?_ GE181.out) | exact HB.out)⟩⟩
  case round =>
    clear H'
    try clear p2
    obtain ⟨x8_1, rfl, HA, HK1, BK181, HB⟩ := hrel
    cases gk with
    | zero => exact absurd HA.out (by simp [impl_Move_47.l0])
    | succ k1 =>
      have H := HA.out
      clear HA
      simp only [impl_Move_47.l0] at H
      by_cases c4 : x8_1 < (l0.length : Int)
      · rw [if_pos c4] at H
        have c4b0 : decide (x8_1 < (l0.length : Int)) = true := decide_eq_true c4
        clear c4
        by_cases c5 : 0 ≤ x8_1
        · rw [if_pos c5] at H
          have c5b0 : decide (0 ≤ x8_1) = true := decide_eq_true c5
          clear c5
          by_cases c6 : x8_1 < (l0.length : Int)
          · rw [if_pos c6] at H
            have c6b0 : decide (x8_1 < (l0.length : Int)) = true := decide_eq_true c6
            clear c6
            by_cases c7 : (a1_0 == ((rd_T38 l0 x8_1).f0) && (a1_1 == ((rd_T38 l0 x8_1).f1))) = true
            · rw [if_pos c7] at H
              have c7b0 : (a1_0 == ((rd_T38 l0 x8_1).f0) && (a1_1 == ((rd_T38 l0 x8_1).f1))) = true := c7
              (try (have c7b1 : decide (a1_0 = ((rd_T38 l0 x8_1).f0) && (a1_1 == ((rd_T38 l0 x8_1).f1))) = true := by simpa using c7))
              (try (have c7b2 : (a1_0 == ((rd_T38 l0 x8_1).f0) && (a1_1 == ((rd_T38 l0 x8_1).f1))) = true := by simpa using c7))
              clear c7
              obtain rfl := Option.some.inj H
              have hcz8_0 : wr.cell? ⟨gb181, 0, none⟩ = some (.int .i64 a1_0) := (blk_cell BK181.out 0).trans rfl
              have hcz8_1 : wr.cell? ⟨gb181, 1, none⟩ = some (.int .i64 a1_1) := (blk_cell BK181.out 1).trans rfl
              have hfz8_0 := blk_frozen BK181.out 0
              have hfz8_1 := blk_frozen BK181.out 1
              have p182 : 0 ≤ (x8_1 : Int) := of_decide_eq_true (by first | (with_reducible assumption) | assumption)
              have q182 : x8_1 < (l0.length : Int) := of_decide_eq_true (by first | (with_reducible assumption) | assumption)
              obtain ⟨ad182, e182, hx182_0, hx182_1⟩ := at_T38 HR0.out x8_1 p182 q182
              cases e182
              replace hx182_0 := (HB.out.cell (World.block_lt_of_cell? w _ hx182_0)).trans hx182_0
              replace hx182_1 := (HB.out.cell (World.block_lt_of_cell? w _ hx182_1)).trans hx182_1
              replace p182 := eq_true p182
              replace q182 := eq_true q182
              go_wp2
              repeat (go_quiet (fail); try go_wp2)
              go_ret
              exact ⟨by first | rfl | (simp [errW_none, errW_some] <;> rfl) | (simp [*, errW_none, errW_some] <;> rfl), by repeat (first | (with_reducible first | exact HB.out | apply below_alloc | apply pw_below_drewN | apply below_drew1 | refine below_set ?_ GE181.out) | exact HB.out)⟩
            · rw [if_neg c7] at H
              have c7b0 : (a1_0 == ((rd_T38 l0 x8_1).f0) && (a1_1 == ((rd_T38 l0 x8_1).f1))) = false := by simpa using c7
              (try (have c7b1 : decide (a1_0 = ((rd_T38 l0 x8_1).f0) && (a1_1 == ((rd_T38 l0 x8_1).f1))) = false := by simpa using c7))
              (try (have c7b2 : (a1_0 == ((rd_T38 l0 x8_1).f0) && (a1_1 == ((rd_T38 l0 x8_1).f1))) = false := by simpa using c7))
              (try (have c7b3 : ¬ (a1_0 = ((rd_T38 l0 x8_1).f0) && (a1_1 == ((rd_T38 l0 x8_1).f1))) := by simpa using c7))
              clear c7
              have H' := Aside0.mk H
              clear H
              have hcz9_0 : wr.cell? ⟨gb181, 0, none⟩ = some (.int .i64 a1_0) := (blk_cell BK181.out 0).trans rfl
              have hcz9_1 : wr.cell? ⟨gb181, 1, none⟩ = some (.int .i64 a1_1) := (blk_cell BK181.out 1).trans rfl
              have hfz9_0 := blk_frozen BK181.out 0
              have hfz9_1 := blk_frozen BK181.out 1
              have p182 : 0 ≤ (x8_1 : Int) := of_decide_eq_true (by first | (with_reducible assumption) | assumption)
              have q182 : x8_1 < (l0.length : Int) := of_decide_eq_true (by first | (with_reducible assumption) | assumption)
              obtain ⟨ad182, e182, hx182_0, hx182_1⟩ := at_T38 HR0.out x8_1 p182 q182
              cases e182
              replace hx182_0 := (HB.out.cell (World.block_lt_of_cell? w _ hx182_0)).trans hx182_0
              replace hx182_1 := (HB.out.cell (World.block_lt_of_cell? w _ hx182_1)).trans hx182_1
              replace p182 := eq_true p182
              replace q182 := eq_true q182
              go_wp2
              repeat (go_quiet (fail); try go_wp2)
              go_roundg k1
              case measure => have := HK1.out; omega
              case rel => exact ⟨(wrap64 (x8_1 + 1)), (by first | rfl | (simp; done) | (simp [*]; done)), H', ⟨by have := HK1.out; omega⟩, ⟨by (with_reducible repeat (first | refine blk_drewN ?_ _ | refine blk_drew ?_ | refine blk_alloc ?_ _)); exact BK181.out⟩, ⟨by repeat (first | (with_reducible first | exact HB.out | apply below_alloc | apply pw_below_drewN | apply below_drew1 | refine below_set ?_ GE181.out) | exact HB.out)⟩⟩
          · rw [if_neg c6] at H
            exact absurd H (by simp)
        · rw [if_neg c5] at H
          exact absurd H (by simp)
      · rw [if_neg c4] at H
        have c4b0 : decide (x8_1 < (l0.length : Int)) = false := decide_eq_false c4
        clear c4
        obtain rfl := Option.some.inj H
        go_wp2
        repeat (go_quiet (fail); try go_wp2)
        go_ret
        exact ⟨by first | rfl | (simp [errW_none, errW_some] <;> rfl) | (simp [*, errW_none, errW_some] <;> rfl), by repeat (first | (with_reducible first | exact HB.out | apply below_alloc | apply pw_below_drewN | apply below_drew1 | refine below_set ?_ GE181.out) | exact HB.out)⟩
end Go.Proofs.YtdgfnoekgeipiaaGreatDoor.Q
namespace Go.Proofs.YtdgfnoekgeipiaaGreatDoor.Q
open Go.RowKit Go.Proofs.YtdgfnoekgeipiaaGreatDoorW.PrintWords Go.Proofs.YtdgfnoekgeipiaaGreatDoorW.PrintLast Go.Proofs.YtdgfnoekgeipiaaGreatDoorW.PrintMore
attribute [local go_sem] max2_int min2_int max_two min_two max_three min_three max_four min_four   
set_option linter.unusedVariables false
set_option linter.unusedSimpArgs false
def impl_Move_34.f (k : Nat) (l0 : List (S38)) (a1_0 : Int) (a1_1 : Int) : Option (Bool) := (impl_Move_47.f k l0 a1_0 a1_1).bind fun t184 => (some (decide (t184 ≥ 0)))
set_option maxHeartbeats 8000000 in
set_option maxRecDepth 100000 in
theorem impl_Move_34.calls (k : Nat) (A0 : Option Addr) (c0 : Nat) (l0 : List (S38)) (a1_0 : Int) (a1_1 : Int) (r : Bool) (w : World) (hG : GW w) (hr0 : Kd.C k38 w A0 l0.length l0) (hc0 : l0.length ≤ c0) (h : impl_Move_34.f k l0 a1_0 a1_1 = some r) :
    Calls Tryz.prog 34 #[.slice A0 l0.length c0, .agg #[.int .i64 a1_0, .int .i64 a1_1]] w fun e w' => e = .returned (.bool r) ∧ Below w.heap.size w w' := by
  have hu38 := Tryz.underlying38
  have HR0 := Aside0.mk hr0
  have HC0 := Aside0.mk hc0
  clear hr0 hc0
  have HB := Aside0.mk (Below.refl w.heap.size w)
  have HG := Aside0.mk hG
  clear hG
  have H : ((impl_Move_47.f k l0 a1_0 a1_1).bind fun t184 => (some (decide (t184 ≥ 0)))) = some r := h
  clear h
  replace H := Option.bind_eq_some_iff.mp H
  obtain ⟨t184, A30, H⟩ := H
  replace H : (some (decide (t184 ≥ 0))) = some r := H
  have A3 := Aside0.mk A30
  clear A30
  obtain rfl := Option.some.inj H
  go_enter Tryz.func34, Tryz.ntmps34
  go_wp2_with (first | ((with_reducible refine gate_dst (N := 3) rfl ?_); refine box_event ?hg (N := 3) ?hd (cs := #[.int .i64 a1_0, .int .i64 a1_1]) (t := 38) ?hr ?_; (case hd => rfl); (case hg => rfl); (case hr => first | (go_simp; done) | (go_simp; rfl)); intro gb183 hg w4 hbox hb; have n0_ := Aside0.mk (below_step (by repeat (first | (with_reducible first | exact HB.out | apply below_alloc | apply pw_below_drewN | apply below_drew1) | exact HB.out)) hb); have n1_ := Aside0.mk (hbox); have n2_ := Aside0.mk ((by rw [hg]; exact (below_size (by repeat (first | (with_reducible first | exact HB.out | apply below_alloc | apply pw_below_drewN | apply below_drew1) | exact HB.out))) : w.heap.size ≤ gb183)); have n3_ := Aside0.mk ((by rw [hg]; exact (below_size (by repeat (first | (with_reducible first | exact HB.out | apply below_alloc | apply pw_below_drewN | apply below_drew1) | exact HB.out))) : w.heap.size ≤ gb183)); clear HB; have HB := n0_; have BK183 := n1_; have GW183 := n2_; have GE183 := n3_; clear n0_ n1_ n2_ n3_; clear hb hbox hg; have hcz5_0 : w4.cell? ⟨gb183, 0, none⟩ = some (.int .i64 a1_0) := (blk_cell BK183.out 0).trans rfl; have hcz5_1 : w4.cell? ⟨gb183, 1, none⟩ = some (.int .i64 a1_1) := (blk_cell BK183.out 1).trans rfl; have hfz5_0 := blk_frozen BK183.out 0; have hfz5_1 := blk_frozen BK183.out 1) | ((with_reducible refine gate_callee (f := 47) rfl ?_); refine goesL_ (some 7) rfl rfl Tryz.func47 (by kernel_rfl) rfl #[.slice A0 l0.length c0, .agg #[.int .i64 a1_0, .int .i64 a1_1]] rfl (by (try simp only [List.map_toArray, List.map_cons, List.map_nil]); first | done | rfl | (simp only [List.length_drop, List.length_take]; rfl)) ?_; (with_reducible refine (impl_Move_47.calls k _ _ l0 a1_0 a1_1 t184 _ (by first | with_reducible exact HG.out | ((repeat (first | with_reducible exact HG.out | with_reducible apply GW.drewN_ | with_reducible apply GW.drew_)); done) | (apply GW.below_ HG.out; (repeat (first | (with_reducible first | exact HB.out | apply below_alloc | apply pw_below_drewN | apply below_drew1 | refine below_set ?_ (Aside0.out (by assumption))) | exact HB.out)); done)) ?side1 ?side2 A3.out).mono ?_); (case side1 => repeat (first | exact (Kd.C_below HR0.out HB.out) | (with_reducible refine Kd.C_alloc ?_ _) | (with_reducible refine Kd.C_drewN ?_ _) | (with_reducible refine Kd.C_drew ?_))); (case side2 => exact HC0.out); rintro e w6 ⟨rfl, hb⟩; refine ⟨_, rfl, ?_⟩; have n0_ := Aside0.mk (blk_below (g := gb183) (o := .cells #[.int .i64 a1_0, .int .i64 a1_1] 38 (0, 0)) (by (with_reducible repeat (first | refine blk_drewN ?_ _ | refine blk_drew ?_ | refine blk_alloc ?_ _)); exact BK183.out) hb); have n1_ := Aside0.mk (below_step (by repeat (first | (with_reducible first | exact HB.out | apply below_alloc | apply pw_below_drewN | apply below_drew1 | refine below_set ?_ GE183.out) | exact HB.out)) hb); clear BK183; clear HB; have BK183 := n0_; have HB := n1_; clear n0_ n1_; (try clear hb); (try clear hb2); (try clear hk); (try clear hi)))
  go_ret
  exact ⟨by first | rfl | (simp [errW_none, errW_some] <;> rfl) | (simp [*, errW_none, errW_some] <;> rfl), by repeat (first | (with_reducible first | exact HB.out | apply below_alloc | apply pw_below_drewN | apply below_drew1 | refine below_set ?_ GE183.out) | exact HB.out)⟩
end Go.Proofs.YtdgfnoekgeipiaaGreatDoor.Q
namespace Go.Proofs.YtdgfnoekgeipiaaGreatDoor.Q
open Go.RowKit Go.Proofs.YtdgfnoekgeipiaaGreatDoorW.PrintWords Go.Proofs.YtdgfnoekgeipiaaGreatDoorW.PrintLast Go.Proofs.YtdgfnoekgeipiaaGreatDoorW.PrintMore
attribute [local go_sem] max2_int min2_int max_two min_two max_three min_three max_four min_four   
set_option linter.unusedVariables false
set_option linter.unusedSimpArgs false
def impl_stepOf.f (a0 : Int) : Option (Int) := if a0 = 84 then (some 1) else (if a0 = 70 then (some (-1)) else (some 0))
set_option maxHeartbeats 8000000 in
set_option maxRecDepth 100000 in
theorem impl_stepOf.calls (a0 : Int) (r : Int) (w : World) (hG : GW w) (h : impl_stepOf.f a0 = some r) :
    Calls Tryz.prog 48 #[.int .u8 a0] w fun e w' => e = .returned (.int .i64 r) ∧ Drawn0 w w' := by
  have HG := Aside0.mk hG
  clear hG
  have H : (if a0 = 84 then (some 1) else (if a0 = 70 then (some (-1)) else (some 0))) = some r := h
  clear h
  by_cases c2 : a0 = 84
  · rw [if_pos c2] at H
    have c2b0 : (a0 == 84) = true := beq_iff_eq.mpr c2
    have c2b1 : (a0 != 84) = false := bne_eq_false_iff_eq.mpr c2
    clear c2
    obtain rfl := Option.some.inj H
    go_enter Tryz.func48, Tryz.ntmps48
    go_wp2
    go_ret
    exact ⟨by first | rfl | (simp; done) | (simp [*]; done), by repeat (first | exact Drawn0.refl _ | apply Drawn0.step)⟩
  · rw [if_neg c2] at H
    have c2b0 : (a0 == 84) = false := beq_eq_false_iff_ne.mpr c2
    have c2b1 : (a0 != 84) = true := bne_iff_ne.mpr c2
    by_cases c3 : a0 = 70
    · rw [if_pos c3] at H
      have c3b0 : (a0 == 70) = true := beq_iff_eq.mpr c3
      have c3b1 : (a0 != 70) = false := bne_eq_false_iff_eq.mpr c3
      clear c3
      obtain rfl := Option.some.inj H
      go_enter Tryz.func48, Tryz.ntmps48
      go_wp2
      go_ret
      exact ⟨by first | rfl | (simp; done) | (simp [*]; done), by repeat (first | exact Drawn0.refl _ | apply Drawn0.step)⟩
    · rw [if_neg c3] at H
      have c3b0 : (a0 == 70) = false := beq_eq_false_iff_ne.mpr c3
      have c3b1 : (a0 != 70) = true := bne_iff_ne.mpr c3
      obtain rfl := Option.some.inj H
      go_enter Tryz.func48, Tryz.ntmps48
      go_wp2
      go_ret
      exact ⟨by first | rfl | (simp; done) | (simp [*]; done), by repeat (first | exact Drawn0.refl _ | apply Drawn0.step)⟩
end Go.Proofs.YtdgfnoekgeipiaaGreatDoor.Q
namespace Go.Proofs.YtdgfnoekgeipiaaGreatDoor.Q
open Go.RowKit Go.Proofs.YtdgfnoekgeipiaaGreatDoorW.PrintWords Go.Proofs.YtdgfnoekgeipiaaGreatDoorW.PrintLast Go.Proofs.YtdgfnoekgeipiaaGreatDoorW.PrintMore
attribute [local go_sem] max2_int min2_int max_two min_two max_three min_three max_four min_four   
set_option linter.unusedVariables false
set_option linter.unusedSimpArgs false
def impl_board_high.f (a0_0 : ByteArray) (a0_1 : Int) : Option (Int) := if a0_1 = 0 then (none) else (some (wrap64 ((a0_0.size : Int) / a0_1)))
set_option maxHeartbeats 8000000 in
set_option maxRecDepth 100000 in
theorem impl_board_high.calls (a0_0 : ByteArray) (a0_1 : Int) (r : Int) (w : World) (hG : GW w) (h : impl_board_high.f a0_0 a0_1 = some r) :
    Calls Tryz.prog 72 #[.agg #[.string a0_0, .int .i64 a0_1]] w fun e w' => e = .returned (.int .i64 r) ∧ Below w.heap.size w w' := by
  have hu43 := Tryz.underlying43
  have HB := Aside0.mk (Below.refl w.heap.size w)
  have HG := Aside0.mk hG
  clear hG
  have H : (if a0_1 = 0 then (none) else (some (wrap64 ((a0_0.size : Int) / a0_1)))) = some r := h
  clear h
  by_cases c2 : a0_1 = 0
  · rw [if_pos c2] at H
    exact absurd H (by simp)
  · rw [if_neg c2] at H
    have c2b0 : (a0_1 == 0) = false := beq_eq_false_iff_ne.mpr c2
    have c2b1 : (a0_1 != 0) = true := bne_iff_ne.mpr c2
    obtain rfl := Option.some.inj H
    go_enter Tryz.func72, Tryz.ntmps72
    go_wp2_with (first | ((with_reducible refine gate_dst (N := 1) rfl ?_); refine box_event ?hg (N := 1) ?hd (cs := #[.string a0_0, .int .i64 a0_1]) (t := 43) ?hr ?_; (case hd => rfl); (case hg => rfl); (case hr => first | (go_simp; done) | (go_simp; rfl)); intro gb185 hg w3 hbox hb; have n0_ := Aside0.mk (below_step (by repeat (first | (with_reducible first | exact HB.out | apply below_alloc | apply pw_below_drewN | apply below_drew1) | exact HB.out)) hb); have n1_ := Aside0.mk (hbox); have n2_ := Aside0.mk ((by rw [hg]; exact (below_size (by repeat (first | (with_reducible first | exact HB.out | apply below_alloc | apply pw_below_drewN | apply below_drew1) | exact HB.out))) : w.heap.size ≤ gb185)); have n3_ := Aside0.mk ((by rw [hg]; exact (below_size (by repeat (first | (with_reducible first | exact HB.out | apply below_alloc | apply pw_below_drewN | apply below_drew1) | exact HB.out))) : w.heap.size ≤ gb185)); clear HB; have HB := n0_; have BK185 := n1_; have GW185 := n2_; have GE185 := n3_; clear n0_ n1_ n2_ n3_; clear hb hbox hg; have hcz4_0 : w3.cell? ⟨gb185, 0, none⟩ = some (.string a0_0) := (blk_cell BK185.out 0).trans rfl; have hcz4_1 : w3.cell? ⟨gb185, 1, none⟩ = some (.int .i64 a0_1) := (blk_cell BK185.out 1).trans rfl; have hfz4_0 := blk_frozen BK185.out 0; have hfz4_1 := blk_frozen BK185.out 1))
    go_ret
    exact ⟨by first | rfl | (simp [errW_none, errW_some] <;> rfl) | (simp [*, errW_none, errW_some] <;> rfl), by repeat (first | (with_reducible first | exact HB.out | apply below_alloc | apply pw_below_drewN | apply below_drew1 | refine below_set ?_ GE185.out) | exact HB.out)⟩
end Go.Proofs.YtdgfnoekgeipiaaGreatDoor.Q
namespace Go.Proofs.YtdgfnoekgeipiaaGreatDoor.Q
open Go.RowKit Go.Proofs.YtdgfnoekgeipiaaGreatDoorW.PrintWords Go.Proofs.YtdgfnoekgeipiaaGreatDoorW.PrintLast Go.Proofs.YtdgfnoekgeipiaaGreatDoorW.PrintMore
attribute [local go_sem] max2_int min2_int max_two min_two max_three min_three max_four min_four   
set_option linter.unusedVariables false
set_option linter.unusedSimpArgs false
def impl_board_sign.f (a0_0 : ByteArray) (a0_1 : Int) (a1 : Int) (a2 : Int) : Option (Int) := (impl_within.f a1 0 (wrap64 (a0_1 - 1))).bind fun t187 => (if t187 = true then ((impl_board_high.f a0_0 a0_1).bind fun t188 => ((impl_within.f a2 0 (wrap64 (t188 - 1))).bind fun t189 => (if t189 = true then (if 0 ≤ (wrap64 ((wrap64 (a2 * a0_1)) + a1)) then (if (wrap64 ((wrap64 (a2 * a0_1)) + a1)) < (a0_0.size : Int) then (some (bt a0_0 (wrap64 ((wrap64 (a2 * a0_1)) + a1)))) else (none)) else (none)) else (some 0)))) else (some 0))
set_option maxHeartbeats 8000000 in
set_option maxRecDepth 100000 in
theorem impl_board_sign.calls (a0_0 : ByteArray) (a0_1 : Int) (a1 : Int) (a2 : Int) (r : Int) (w : World) (hG : GW w) (h : impl_board_sign.f a0_0 a0_1 a1 a2 = some r) :
    Calls Tryz.prog 49 #[.agg #[.string a0_0, .int .i64 a0_1], .int .i64 a1, .int .i64 a2] w fun e w' => e = .returned (.int .u8 r) ∧ Below w.heap.size w w' := by
  have hu43 := Tryz.underlying43
  have HB := Aside0.mk (Below.refl w.heap.size w)
  have HG := Aside0.mk hG
  clear hG
  have H : ((impl_within.f a1 0 (wrap64 (a0_1 - 1))).bind fun t187 => (if t187 = true then ((impl_board_high.f a0_0 a0_1).bind fun t188 => ((impl_within.f a2 0 (wrap64 (t188 - 1))).bind fun t189 => (if t189 = true then (if 0 ≤ (wrap64 ((wrap64 (a2 * a0_1)) + a1)) then (if (wrap64 ((wrap64 (a2 * a0_1)) + a1)) < (a0_0.size : Int) then (some (bt a0_0 (wrap64 ((wrap64 (a2 * a0_1)) + a1)))) else (none)) else (none)) else (some 0)))) else (some 0))) = some r := h
  clear h
  replace H := Option.bind_eq_some_iff.mp H
  obtain ⟨t187, A40, H⟩ := H
  replace H : (if t187 = true then ((impl_board_high.f a0_0 a0_1).bind fun t188 => ((impl_within.f a2 0 (wrap64 (t188 - 1))).bind fun t189 => (if t189 = true then (if 0 ≤ (wrap64 ((wrap64 (a2 * a0_1)) + a1)) then (if (wrap64 ((wrap64 (a2 * a0_1)) + a1)) < (a0_0.size : Int) then (some (bt a0_0 (wrap64 ((wrap64 (a2 * a0_1)) + a1)))) else (none)) else (none)) else (some 0)))) else (some 0)) = some r := H
  have A4 := Aside0.mk A40
  clear A40
  by_cases c5 : t187 = true
  · subst c5
    have H1 : ((impl_board_high.f a0_0 a0_1).bind fun t188 => ((impl_within.f a2 0 (wrap64 (t188 - 1))).bind fun t189 => (if t189 = true then (if 0 ≤ (wrap64 ((wrap64 (a2 * a0_1)) + a1)) then (if (wrap64 ((wrap64 (a2 * a0_1)) + a1)) < (a0_0.size : Int) then (some (bt a0_0 (wrap64 ((wrap64 (a2 * a0_1)) + a1)))) else (none)) else (none)) else (some 0)))) = some r := by rw [if_pos rfl] at H; exact H
    clear H
    have H := H1
    clear H1
    replace H := Option.bind_eq_some_iff.mp H
    obtain ⟨t188, A60, H⟩ := H
    replace H : ((impl_within.f a2 0 (wrap64 (t188 - 1))).bind fun t189 => (if t189 = true then (if 0 ≤ (wrap64 ((wrap64 (a2 * a0_1)) + a1)) then (if (wrap64 ((wrap64 (a2 * a0_1)) + a1)) < (a0_0.size : Int) then (some (bt a0_0 (wrap64 ((wrap64 (a2 * a0_1)) + a1)))) else (none)) else (none)) else (some 0))) = some r := H
    have A6 := Aside0.mk A60
    clear A60
    replace H := Option.bind_eq_some_iff.mp H
    obtain ⟨t189, A70, H⟩ := H
    replace H : (if t189 = true then (if 0 ≤ (wrap64 ((wrap64 (a2 * a0_1)) + a1)) then (if (wrap64 ((wrap64 (a2 * a0_1)) + a1)) < (a0_0.size : Int) then (some (bt a0_0 (wrap64 ((wrap64 (a2 * a0_1)) + a1)))) else (none)) else (none)) else (some 0)) = some r := H
    have A7 := Aside0.mk A70
    clear A70
    by_cases c8 : t189 = true
    · subst c8
      have H1 : (if 0 ≤ (wrap64 ((wrap64 (a2 * a0_1)) + a1)) then (if (wrap64 ((wrap64 (a2 * a0_1)) + a1)) < (a0_0.size : Int) then (some (bt a0_0 (wrap64 ((wrap64 (a2 * a0_1)) + a1)))) else (none)) else (none)) = some r := by rw [if_pos rfl] at H; exact H
      clear H
      have H := H1
      clear H1
      obtain ⟨ji9, hji9⟩ : ∃ j_ : Int, (wrap64 ((wrap64 (a2 * a0_1)) + a1)) = j_ := ⟨_, rfl⟩
      replace H : (if 0 ≤ (ji9) then (if (ji9) < (a0_0.size : Int) then (some (bt a0_0 (ji9))) else (none)) else (none)) = some r := by first | (rw [hji9] at H; exact H) | (simp only [hji9] at H ⊢; exact H)
      (try rw [hji9] at A4)
      (try rw [hji9] at A6)
      (try rw [hji9] at A7)
      have hji9w : (IntKind.i64.wrap ((wrap64 (a2 * a0_1)) + a1)) = ji9 := (i64_w _).trans hji9
      by_cases c10 : 0 ≤ (ji9)
      · rw [if_pos c10] at H
        have c10b0 : decide (0 ≤ (ji9)) = true := decide_eq_true c10
        clear c10
        by_cases c11 : (ji9) < (a0_0.size : Int)
        · rw [if_pos c11] at H
          have c11b0 : decide ((ji9) < (a0_0.size : Int)) = true := decide_eq_true c11
          clear c11
          obtain rfl := Option.some.inj H
          go_enter Tryz.func49, Tryz.ntmps49
          go_wp2_with (first | ((with_reducible refine gate_dst (N := 3) rfl ?_); refine box_event ?hg (N := 3) ?hd (cs := #[.string a0_0, .int .i64 a0_1]) (t := 43) ?hr ?_; (case hd => rfl); (case hg => rfl); (case hr => first | (go_simp; done) | (go_simp; rfl)); intro gb186 hg w13 hbox hb; have n0_ := Aside0.mk (below_step (by repeat (first | (with_reducible first | exact HB.out | apply below_alloc | apply pw_below_drewN | apply below_drew1) | exact HB.out)) hb); have n1_ := Aside0.mk (hbox); have n2_ := Aside0.mk ((by rw [hg]; exact (below_size (by repeat (first | (with_reducible first | exact HB.out | apply below_alloc | apply pw_below_drewN | apply below_drew1) | exact HB.out))) : w.heap.size ≤ gb186)); have n3_ := Aside0.mk ((by rw [hg]; exact (below_size (by repeat (first | (with_reducible first | exact HB.out | apply below_alloc | apply pw_below_drewN | apply below_drew1) | exact HB.out))) : w.heap.size ≤ gb186)); clear HB; have HB := n0_; have BK186 := n1_; have GW186 := n2_; have GE186 := n3_; clear n0_ n1_ n2_ n3_; clear hb hbox hg; have hcz14_0 : w13.cell? ⟨gb186, 0, none⟩ = some (.string a0_0) := (blk_cell BK186.out 0).trans rfl; have hcz14_1 : w13.cell? ⟨gb186, 1, none⟩ = some (.int .i64 a0_1) := (blk_cell BK186.out 1).trans rfl; have hfz14_0 := blk_frozen BK186.out 0; have hfz14_1 := blk_frozen BK186.out 1) | ((with_reducible refine gate_callee (f := 42) rfl ?_); refine goesL_ (some 11) rfl rfl Tryz.func42 (by kernel_rfl) rfl #[.int .i64 a1, .int .i64 0, .int .i64 (wrap64 (a0_1 - 1))] rfl (by (try simp only [List.map_toArray, List.map_cons, List.map_nil]); first | done | rfl | (simp only [List.length_drop, List.length_take]; rfl)) ?_; (with_reducible refine (impl_within.calls a1 0 (wrap64 (a0_1 - 1)) true _ (by first | with_reducible exact HG.out | ((repeat (first | with_reducible exact HG.out | with_reducible apply GW.drewN_ | with_reducible apply GW.drew_)); done) | (apply GW.below_ HG.out; (repeat (first | (with_reducible first | exact HB.out | apply below_alloc | apply pw_below_drewN | apply below_drew1 | refine below_set ?_ (Aside0.out (by assumption))) | exact HB.out)); done)) A4.out).mono ?_); rintro e w' ⟨rfl, ⟨nd, rfl⟩⟩; refine ⟨_, rfl, ?_⟩) | (go_at_call 72; (with_reducible refine (impl_board_high.calls a0_0 a0_1 t188 _ (by first | with_reducible exact HG.out | ((repeat (first | with_reducible exact HG.out | with_reducible apply GW.drewN_ | with_reducible apply GW.drew_)); done) | (apply GW.below_ HG.out; (repeat (first | (with_reducible first | exact HB.out | apply below_alloc | apply pw_below_drewN | apply below_drew1 | refine below_set ?_ (Aside0.out (by assumption))) | exact HB.out)); done)) A6.out).mono ?_); rintro e w15 ⟨rfl, hb⟩; have n0_ := Aside0.mk (blk_below (g := gb186) (o := .cells #[.string a0_0, .int .i64 a0_1] 43 (0, 0)) (by (with_reducible repeat (first | refine blk_drewN ?_ _ | refine blk_drew ?_ | refine blk_alloc ?_ _)); exact BK186.out) hb); have n1_ := Aside0.mk (below_step (by repeat (first | (with_reducible first | exact HB.out | apply below_alloc | apply pw_below_drewN | apply below_drew1 | refine below_set ?_ GE186.out) | exact HB.out)) hb); clear BK186; clear HB; have BK186 := n0_; have HB := n1_; clear n0_ n1_; (try clear hb); (try clear hb2); (try clear hk); (try clear hi)) | (go_at_call 42; (with_reducible refine (impl_within.calls a2 0 (wrap64 (t188 - 1)) true _ (by first | with_reducible exact HG.out | ((repeat (first | with_reducible exact HG.out | with_reducible apply GW.drewN_ | with_reducible apply GW.drew_)); done) | (apply GW.below_ HG.out; (repeat (first | (with_reducible first | exact HB.out | apply below_alloc | apply pw_below_drewN | apply below_drew1 | refine below_set ?_ (Aside0.out (by assumption))) | exact HB.out)); done)) A7.out).mono ?_); rintro e w' ⟨rfl, ⟨nd, rfl⟩⟩; have hcz16_0 : w15.cell? ⟨gb186, 0, none⟩ = some (.string a0_0) := (blk_cell BK186.out 0).trans rfl; have hcz16_1 : w15.cell? ⟨gb186, 1, none⟩ = some (.int .i64 a0_1) := (blk_cell BK186.out 1).trans rfl; have hfz16_0 := blk_frozen BK186.out 0; have hfz16_1 := blk_frozen BK186.out 1; have p12 : 0 ≤ ((ji9) : Int) := of_decide_eq_true (by first | (with_reducible assumption) | assumption); have q12 : (ji9) < (a0_0.size : Int) := of_decide_eq_true (by first | (with_reducible assumption) | assumption); have hx12 := bt_at a0_0 (ji9); replace p12 := eq_true p12; replace q12 := eq_true q12))
          go_ret
          exact ⟨by first | rfl | (simp [errW_none, errW_some] <;> rfl) | (simp only [← hji9]; first | rfl | (simp [errW_none, errW_some] <;> rfl)) | (simp [*, errW_none, errW_some] <;> rfl), by repeat (first | (with_reducible first | exact HB.out | apply below_alloc | apply pw_below_drewN | apply below_drew1 | refine below_set ?_ GE186.out) | exact HB.out)⟩
        · rw [if_neg c11] at H
          exact absurd H (by simp)
      · rw [if_neg c10] at H
        exact absurd H (by simp)
    · replace c8 := Bool.eq_false_iff.mpr c8
      subst c8
      have H1 : (some 0) = some r := by rw [if_neg (show ¬ (false = true) by decide)] at H; exact H
      clear H
      have H := H1
      clear H1
      obtain rfl := Option.some.inj H
      go_enter Tryz.func49, Tryz.ntmps49
      go_wp2_with (first | ((with_reducible refine gate_dst (N := 3) rfl ?_); refine box_event ?hg (N := 3) ?hd (cs := #[.string a0_0, .int .i64 a0_1]) (t := 43) ?hr ?_; (case hd => rfl); (case hg => rfl); (case hr => first | (go_simp; done) | (go_simp; rfl)); intro gb186 hg w17 hbox hb; have n0_ := Aside0.mk (below_step (by repeat (first | (with_reducible first | exact HB.out | apply below_alloc | apply pw_below_drewN | apply below_drew1) | exact HB.out)) hb); have n1_ := Aside0.mk (hbox); have n2_ := Aside0.mk ((by rw [hg]; exact (below_size (by repeat (first | (with_reducible first | exact HB.out | apply below_alloc | apply pw_below_drewN | apply below_drew1) | exact HB.out))) : w.heap.size ≤ gb186)); have n3_ := Aside0.mk ((by rw [hg]; exact (below_size (by repeat (first | (with_reducible first | exact HB.out | apply below_alloc | apply pw_below_drewN | apply below_drew1) | exact HB.out))) : w.heap.size ≤ gb186)); clear HB; have HB := n0_; have BK186 := n1_; have GW186 := n2_; have GE186 := n3_; clear n0_ n1_ n2_ n3_; clear hb hbox hg; have hcz18_0 : w17.cell? ⟨gb186, 0, none⟩ = some (.string a0_0) := (blk_cell BK186.out 0).trans rfl; have hcz18_1 : w17.cell? ⟨gb186, 1, none⟩ = some (.int .i64 a0_1) := (blk_cell BK186.out 1).trans rfl; have hfz18_0 := blk_frozen BK186.out 0; have hfz18_1 := blk_frozen BK186.out 1) | ((with_reducible refine gate_callee (f := 42) rfl ?_); refine goesL_ (some 11) rfl rfl Tryz.func42 (by kernel_rfl) rfl #[.int .i64 a1, .int .i64 0, .int .i64 (wrap64 (a0_1 - 1))] rfl (by (try simp only [List.map_toArray, List.map_cons, List.map_nil]); first | done | rfl | (simp only [List.length_drop, List.length_take]; rfl)) ?_; (with_reducible refine (impl_within.calls a1 0 (wrap64 (a0_1 - 1)) true _ (by first | with_reducible exact HG.out | ((repeat (first | with_reducible exact HG.out | with_reducible apply GW.drewN_ | with_reducible apply GW.drew_)); done) | (apply GW.below_ HG.out; (repeat (first | (with_reducible first | exact HB.out | apply below_alloc | apply pw_below_drewN | apply below_drew1 | refine below_set ?_ (Aside0.out (by assumption))) | exact HB.out)); done)) A4.out).mono ?_); rintro e w' ⟨rfl, ⟨nd, rfl⟩⟩; refine ⟨_, rfl, ?_⟩) | (go_at_call 72; (with_reducible refine (impl_board_high.calls a0_0 a0_1 t188 _ (by first | with_reducible exact HG.out | ((repeat (first | with_reducible exact HG.out | with_reducible apply GW.drewN_ | with_reducible apply GW.drew_)); done) | (apply GW.below_ HG.out; (repeat (first | (with_reducible first | exact HB.out | apply below_alloc | apply pw_below_drewN | apply below_drew1 | refine below_set ?_ (Aside0.out (by assumption))) | exact HB.out)); done)) A6.out).mono ?_); rintro e w19 ⟨rfl, hb⟩; have n0_ := Aside0.mk (blk_below (g := gb186) (o := .cells #[.string a0_0, .int .i64 a0_1] 43 (0, 0)) (by (with_reducible repeat (first | refine blk_drewN ?_ _ | refine blk_drew ?_ | refine blk_alloc ?_ _)); exact BK186.out) hb); have n1_ := Aside0.mk (below_step (by repeat (first | (with_reducible first | exact HB.out | apply below_alloc | apply pw_below_drewN | apply below_drew1 | refine below_set ?_ GE186.out) | exact HB.out)) hb); clear BK186; clear HB; have BK186 := n0_; have HB := n1_; clear n0_ n1_; (try clear hb); (try clear hb2); (try clear hk); (try clear hi)) | (go_at_call 42; (with_reducible refine (impl_within.calls a2 0 (wrap64 (t188 - 1)) false _ (by first | with_reducible exact HG.out | ((repeat (first | with_reducible exact HG.out | with_reducible apply GW.drewN_ | with_reducible apply GW.drew_)); done) | (apply GW.below_ HG.out; (repeat (first | (with_reducible first | exact HB.out | apply below_alloc | apply pw_below_drewN | apply below_drew1 | refine below_set ?_ (Aside0.out (by assumption))) | exact HB.out)); done)) A7.out).mono ?_); rintro e w' ⟨rfl, ⟨nd, rfl⟩⟩))
      go_ret
      exact ⟨by first | rfl | (simp [errW_none, errW_some] <;> rfl) | (simp [*, errW_none, errW_some] <;> rfl), by repeat (first | (with_reducible first | exact HB.out | apply below_alloc | apply pw_below_drewN | apply below_drew1 | refine below_set ?_ GE186.out) | exact HB.out)⟩
  · replace c5 := Bool.eq_false_iff.mpr c5
    subst c5
    have H1 : (some 0) = some r := by rw [if_neg (show ¬ (false = true) by decide)] at H; exact H
    clear H
    have H := H1
    clear H1
    obtain rfl := Option.some.inj H
    go_enter Tryz.func49, Tryz.ntmps49
    go_wp2_with (first | ((with_reducible refine gate_dst (N := 3) rfl ?_); refine box_event ?hg (N := 3) ?hd (cs := #[.string a0_0, .int .i64 a0_1]) (t := 43) ?hr ?_; (case hd => rfl); (case hg => rfl); (case hr => first | (go_simp; done) | (go_simp; rfl)); intro gb186 hg w20 hbox hb; have n0_ := Aside0.mk (below_step (by repeat (first | (with_reducible first | exact HB.out | apply below_alloc | apply pw_below_drewN | apply below_drew1) | exact HB.out)) hb); have n1_ := Aside0.mk (hbox); have n2_ := Aside0.mk ((by rw [hg]; exact (below_size (by repeat (first | (with_reducible first | exact HB.out | apply below_alloc | apply pw_below_drewN | apply below_drew1) | exact HB.out))) : w.heap.size ≤ gb186)); have n3_ := Aside0.mk ((by rw [hg]; exact (below_size (by repeat (first | (with_reducible first | exact HB.out | apply below_alloc | apply pw_below_drewN | apply below_drew1) | exact HB.out))) : w.heap.size ≤ gb186)); clear HB; have HB := n0_; have BK186 := n1_; have GW186 := n2_; have GE186 := n3_; clear n0_ n1_ n2_ n3_; clear hb hbox hg; have hcz21_0 : w20.cell? ⟨gb186, 0, none⟩ = some (.string a0_0) := (blk_cell BK186.out 0).trans rfl; have hcz21_1 : w20.cell? ⟨gb186, 1, none⟩ = some (.int .i64 a0_1) := (blk_cell BK186.out 1).trans rfl; have hfz21_0 := blk_frozen BK186.out 0; have hfz21_1 := blk_frozen BK186.out 1) | ((with_reducible refine gate_callee (f := 42) rfl ?_); refine goesL_ (some 11) rfl rfl Tryz.func42 (by kernel_rfl) rfl #[.int .i64 a1, .int .i64 0, .int .i64 (wrap64 (a0_1 - 1))] rfl (by (try simp only [List.map_toArray, List.map_cons, List.map_nil]); first | done | rfl | (simp only [List.length_drop, List.length_take]; rfl)) ?_; (with_reducible refine (impl_within.calls a1 0 (wrap64 (a0_1 - 1)) false _ (by first | with_reducible exact HG.out | ((repeat (first | with_reducible exact HG.out | with_reducible apply GW.drewN_ | with_reducible apply GW.drew_)); done) | (apply GW.below_ HG.out; (repeat (first | (with_reducible first | exact HB.out | apply below_alloc | apply pw_below_drewN | apply below_drew1 | refine below_set ?_ (Aside0.out (by assumption))) | exact HB.out)); done)) A4.out).mono ?_); rintro e w' ⟨rfl, ⟨nd, rfl⟩⟩; refine ⟨_, rfl, ?_⟩))
    go_ret
    exact ⟨by first | rfl | (simp [errW_none, errW_some] <;> rfl) | (simp [*, errW_none, errW_some] <;> rfl), by repeat (first | (with_reducible first | exact HB.out | apply below_alloc | apply pw_below_drewN | apply below_drew1 | refine below_set ?_ GE186.out) | exact HB.out)⟩
end Go.Proofs.YtdgfnoekgeipiaaGreatDoor.Q
namespace Go.Proofs.YtdgfnoekgeipiaaGreatDoor.Q
open Go.RowKit Go.Proofs.YtdgfnoekgeipiaaGreatDoorW.PrintWords Go.Proofs.YtdgfnoekgeipiaaGreatDoorW.PrintLast Go.Proofs.YtdgfnoekgeipiaaGreatDoorW.PrintMore
attribute [local go_sem] max2_int min2_int max_two min_two max_three min_three max_four min_four   
set_option linter.unusedVariables false
set_option linter.unusedSimpArgs false
def impl_other.f (a0 : Int) : Option (Int) := if a0 = 84 then (some 70) else (if a0 = 70 then (some 84) else (some a0))
set_option maxHeartbeats 8000000 in
set_option maxRecDepth 100000 in
theorem impl_other.calls (a0 : Int) (r : Int) (w : World) (hG : GW w) (h : impl_other.f a0 = some r) :
    Calls Tryz.prog 50 #[.int .u8 a0] w fun e w' => e = .returned (.int .u8 r) ∧ Drawn0 w w' := by
  have HG := Aside0.mk hG
  clear hG
  have H : (if a0 = 84 then (some 70) else (if a0 = 70 then (some 84) else (some a0))) = some r := h
  clear h
  by_cases c2 : a0 = 84
  · rw [if_pos c2] at H
    have c2b0 : (a0 == 84) = true := beq_iff_eq.mpr c2
    have c2b1 : (a0 != 84) = false := bne_eq_false_iff_eq.mpr c2
    clear c2
    obtain rfl := Option.some.inj H
    go_enter Tryz.func50, Tryz.ntmps50
    go_wp2
    go_ret
    exact ⟨by first | rfl | (simp; done) | (simp [*]; done), by repeat (first | exact Drawn0.refl _ | apply Drawn0.step)⟩
  · rw [if_neg c2] at H
    have c2b0 : (a0 == 84) = false := beq_eq_false_iff_ne.mpr c2
    have c2b1 : (a0 != 84) = true := bne_iff_ne.mpr c2
    by_cases c3 : a0 = 70
    · rw [if_pos c3] at H
      have c3b0 : (a0 == 70) = true := beq_iff_eq.mpr c3
      have c3b1 : (a0 != 70) = false := bne_eq_false_iff_eq.mpr c3
      clear c3
      obtain rfl := Option.some.inj H
      go_enter Tryz.func50, Tryz.ntmps50
      go_wp2
      go_ret
      exact ⟨by first | rfl | (simp; done) | (simp [*]; done), by repeat (first | exact Drawn0.refl _ | apply Drawn0.step)⟩
    · rw [if_neg c3] at H
      have c3b0 : (a0 == 70) = false := beq_eq_false_iff_ne.mpr c3
      have c3b1 : (a0 != 70) = true := bne_iff_ne.mpr c3
      obtain rfl := Option.some.inj H
      go_enter Tryz.func50, Tryz.ntmps50
      go_wp2
      go_ret
      exact ⟨by first | rfl | (simp; done) | (simp [*]; done), by repeat (first | exact Drawn0.refl _ | apply Drawn0.step)⟩
end Go.Proofs.YtdgfnoekgeipiaaGreatDoor.Q
namespace Go.Proofs.YtdgfnoekgeipiaaGreatDoor.Q
open Go.RowKit Go.Proofs.YtdgfnoekgeipiaaGreatDoorW.PrintWords Go.Proofs.YtdgfnoekgeipiaaGreatDoorW.PrintLast Go.Proofs.YtdgfnoekgeipiaaGreatDoorW.PrintMore
attribute [local go_sem] max2_int min2_int max_two min_two max_three min_three max_four min_four   
set_option linter.unusedVariables false
set_option linter.unusedSimpArgs false
end Go.Proofs.YtdgfnoekgeipiaaGreatDoor.Q
namespace Go.Proofs.YtdgfnoekgeipiaaGreatDoor.Q
open Go.RowKit Go.Proofs.YtdgfnoekgeipiaaGreatDoorW.PrintWords Go.Proofs.YtdgfnoekgeipiaaGreatDoorW.PrintLast Go.Proofs.YtdgfnoekgeipiaaGreatDoorW.PrintMore
attribute [local go_sem] max2_int min2_int max_two min_two max_three min_three max_four min_four   
set_option linter.unusedVariables false
set_option linter.unusedSimpArgs false
end Go.Proofs.YtdgfnoekgeipiaaGreatDoor.Q
namespace Go.Proofs.YtdgfnoekgeipiaaGreatDoor.Q
open Go.RowKit Go.Proofs.YtdgfnoekgeipiaaGreatDoorW.PrintWords Go.Proofs.YtdgfnoekgeipiaaGreatDoorW.PrintLast Go.Proofs.YtdgfnoekgeipiaaGreatDoorW.PrintMore
attribute [local go_sem] max2_int min2_int max_two min_two max_three min_three max_four min_four   
set_option linter.unusedVariables false
set_option linter.unusedSimpArgs false
end Go.Proofs.YtdgfnoekgeipiaaGreatDoor.Q
namespace Go.Proofs.YtdgfnoekgeipiaaGreatDoor.Q
open Go.RowKit Go.Proofs.YtdgfnoekgeipiaaGreatDoorW.PrintWords Go.Proofs.YtdgfnoekgeipiaaGreatDoorW.PrintLast Go.Proofs.YtdgfnoekgeipiaaGreatDoorW.PrintMore
attribute [local go_sem] max2_int min2_int max_two min_two max_three min_three max_four min_four   
set_option linter.unusedVariables false
set_option linter.unusedSimpArgs false
end Go.Proofs.YtdgfnoekgeipiaaGreatDoor.Q
namespace Go.Proofs.YtdgfnoekgeipiaaGreatDoor.Q
open Go.RowKit Go.Proofs.YtdgfnoekgeipiaaGreatDoorW.PrintWords Go.Proofs.YtdgfnoekgeipiaaGreatDoorW.PrintLast Go.Proofs.YtdgfnoekgeipiaaGreatDoorW.PrintMore
attribute [local go_sem] max2_int min2_int max_two min_two max_three min_three max_four min_four   
set_option linter.unusedVariables false
set_option linter.unusedSimpArgs false
def cmpMv (x y : Int × Int) : Int := if Lib.compareInt x.1 y.1 ≠ 0 then Lib.compareInt x.1 y.1 else Lib.compareInt x.2 y.2
def encMv (x : Int × Int) : List Value := [.int .i64 x.1, .int .i64 x.2]
theorem cmpMv_lt (x y : Int × Int) : ltOf cmpMv x y = decide (x.1 < y.1 ∨ x.1 = y.1 ∧ x.2 < y.2) := by
  unfold ltOf cmpMv Lib.compareInt
  by_cases h1 : x.1 < y.1
  · simp [h1]
  · by_cases h2 : y.1 < x.1
    · have : ¬ x.1 = y.1 := by omega
      simp [h1, h2, this]
    · have : x.1 = y.1 := by omega
      by_cases h3 : x.2 < y.2
      · simp [this, h3]
      · by_cases h4 : y.2 < x.2 <;> simp [this, h3, h4]
theorem cmpMv_swo : Sort.SWO (ltOf cmpMv) := {
  irrefl := fun x => by rw [cmpMv_lt]; simp
  trans := fun x y z h1 h2 => by rw [cmpMv_lt] at *; simp at *; omega
  ntrans := fun x y z h1 h2 => by rw [cmpMv_lt] at *; simp at *; omega }
theorem cmpMv_total (x y : Int × Int) (h1 : ltOf cmpMv x y = false) (h2 : ltOf cmpMv y x = false) : x = y := by
  rw [cmpMv_lt] at *; simp at *; exact Prod.ext (by omega) (by omega)
theorem cmpOr2 (g : Nat) (a b : Int) (W : World) (hb : W.heap[g]? = some (.cells #[.int .i64 a, .int .i64 b] 3 (0, 0))) :
    Calls Tryz.prog 53 #[.slice (some ⟨g, 0, none⟩) 2 2] W fun e w' => e = .returned (.int .i64 (if a ≠ 0 then a else b)) ∧ ∃ q os', w' = Sort.grow (W.drewN q) os' := by
  have h0 : W.cell? ⟨g, 0, none⟩ = some (.int .i64 a) := (blk_cell hb 0).trans rfl
  have h1 : W.cell? ⟨g, 1, none⟩ = some (.int .i64 b) := (blk_cell hb 1).trans rfl
  have hw := World.block_lt_of_cell? _ _ h0
  have e0 : ∀ z : Int, (if (0 : Int) ≠ 0 then (0 : Int) else z) = z := fun z => by simp
  clear hb
  go_enter Tryz.func53, Tryz.ntmps53
  go_wp2
  go_loopg [5, 8] 2 (fun gg _ s8 wr => ∃ kk : Nat, kk ≤ 2 ∧ 2 - kk ≤ gg ∧ s8 = .int .i64 kk ∧ wr = W ∧ (0 < kk → a = 0) ∧ (1 < kk → b = 0))
  case atStart => exact ⟨0, by omega, by omega, rfl, rfl, fun h => absurd h (by omega), fun h => absurd h (by omega)⟩
  case round =>
    obtain ⟨kk, hkk, hg, rfl, rfl, hka, hkb⟩ := hrel
    have h3 : kk = 0 ∨ kk = 1 ∨ kk = 2 := by omega
    rcases h3 with rfl | rfl | rfl
    · clear hka hkb
      by_cases ha : a = 0
      · go_wp2
        go_roundg 1
        case measure => omega
        case rel => exact ⟨1, by omega, by omega, by go_num, rfl, fun _ => ha, fun h => absurd h (by omega)⟩
      · have HA := Aside0.mk ha
        go_wp2
        go_ret
        exact ⟨by first | rfl | (show Ending.returned (.int .i64 a) = _; rw [if_pos HA.out]), 0, #[], by rw [Sort.grow_empty]; rfl⟩
    · have ha := hka (by omega)
      clear hka hkb
      by_cases hb : b = 0
      · go_wp2
        go_roundg 0
        case measure => omega
        case rel => exact ⟨2, by omega, by omega, by go_num, rfl, fun _ => ha, fun _ => hb⟩
      · have HA := Aside0.mk ha
        go_wp2
        go_ret
        exact ⟨by first | rfl | (show Ending.returned (.int .i64 b) = _; simp [HA.out]), 0, #[], by rw [Sort.grow_empty]; rfl⟩
    · have ha := hka (by omega)
      have hb := hkb (by omega)
      clear hka hkb
      have HA := Aside0.mk ha
      have HB := Aside0.mk hb
      go_wp2
      go_ret
      exact ⟨by first | rfl | (show Ending.returned (.int .i64 0) = _; simp [HA.out, HB.out]), 0, #[], by rw [Sort.grow_empty]; rfl⟩
set_option maxHeartbeats 1000000 in
theorem sortMove_new (W3 : World) (o : Obj) (n : Nat) (h : W3.heap.size = n) : ((W3.alloc o).drew).heap[n]? = some o := by
  subst h
  show (W3.heap.push o)[W3.heap.size]? = some o
  exact Array.getElem?_push_size
theorem sortMove_cells (x y : Int × Int) (W W2 : World) (g1 g2 : Nat) (hW2 : (W.alloc (Obj.cells #[Value.int IntKind.i64 x.1, Value.int IntKind.i64 x.2] 38)).alloc (Obj.cells #[Value.int IntKind.i64 y.1, Value.int IntKind.i64 y.2] 38) = W2)
    (hg1 : W.heap.size = g1) (hg2 : g1 + 1 = g2) : W2.cell? ⟨g1, 0, none⟩ = some (.int .i64 x.1) ∧ W2.cell? ⟨g1, 1, none⟩ = some (.int .i64 x.2) ∧ W2.cell? ⟨g2, 0, none⟩ = some (.int .i64 y.1) ∧ W2.cell? ⟨g2, 1, none⟩ = some (.int .i64 y.2) := by
  subst hW2 hg1 hg2
  exact ⟨by go_simp, by go_simp, by go_simp, by go_simp⟩
theorem sortMove_old {W2 : World} {a : Addr} {v : Value} (h : W2.cell? a = some v) (o : Obj) (n : Nat) (os : Array Obj) : (Sort.grow ((W2.alloc o).drewN n) os).cell? a = some v := by
  have h1 := pw_cell_below (below_alloc (Below.refl _ W2) o) h
  have hlt : a.block < (W2.alloc o).heap.size := World.block_lt_of_cell? _ _ h1
  rw [← h1]
  apply World.cell?_of_block
  show ((W2.alloc o).heap ++ os)[a.block]? = (W2.alloc o).heap[a.block]?
  rw [Array.getElem?_append_left hlt]
theorem sortMove_grow3 (W : World) (a b c : Obj) (n : Nat) (os : Array Obj) : Sort.grow ((((W.alloc a).alloc b).alloc c).drewN n) os = Sort.grow (W.drewN n) (#[a, b, c] ++ os) := by
  unfold Sort.grow
  congr 1
  show (((W.heap.push a).push b).push c) ++ os = W.heap ++ (#[a, b, c] ++ os)
  rw [← Array.append_assoc]
  rfl
set_option maxHeartbeats 1000000 in
set_option maxRecDepth 100000 in
theorem sortMove_cmp (x y : Int × Int) (W : World) : Calls Tryz.prog 52 #[.agg #[.int .i64 x.1, .int .i64 x.2], .agg #[.int .i64 y.1, .int .i64 y.2]] W fun e w' => e = .returned (.int .i64 (cmpMv x y)) ∧ ∃ q os', w' = Sort.grow (W.drewN q) os' := by
  have hcmp := fun a b W' => Tryz.cmp_Compare_int a b W'
  unfold cmpMv
  generalize hp : Lib.compareInt x.1 y.1 = p at ⊢
  generalize hq : Lib.compareInt x.2 y.2 = q at ⊢
  have h1 := fun W' => hcmp x.1 y.1 W'
  have h2 := fun W' => hcmp x.2 y.2 W'
  rw [hp] at h1
  rw [hq] at h2
  clear hcmp hp hq
  have hor := fun g W' hb => cmpOr2 g p q W' hb
  generalize (if p ≠ 0 then p else q) = r at hor ⊢
  go_enter Tryz.func52, Tryz.ntmps52
  go_wp2
  obtain ⟨W2, hW2⟩ : ∃ W2, (W.alloc (Obj.cells #[Value.int IntKind.i64 x.1, Value.int IntKind.i64 x.2] 38)).alloc (Obj.cells #[Value.int IntKind.i64 y.1, Value.int IntKind.i64 y.2] 38) = W2 := ⟨_, rfl⟩
  obtain ⟨g1, hg1⟩ : ∃ g, W.heap.size = g := ⟨_, rfl⟩
  obtain ⟨g2, hg2⟩ : ∃ g, g1 + 1 = g := ⟨_, rfl⟩
  obtain ⟨c1, c2, c3, c4⟩ := sortMove_cells x y W W2 g1 g2 hW2 hg1 hg2
  have l1 := World.block_lt_of_cell? _ _ c1
  have l2 := World.block_lt_of_cell? _ _ c3
  rw [hW2, hg1, hg2]
  have HW2 := Aside0.mk hW2
  clear hW2 hg1 hg2
  go_region_held3 (fun w' => w'.cell? ⟨g1, 0, none⟩ = some (.int .i64 x.1) ∧ w'.cell? ⟨g1, 1, none⟩ = some (.int .i64 x.2) ∧ w'.cell? ⟨g2, 0, none⟩ = some (.int .i64 y.1) ∧ w'.cell? ⟨g2, 1, none⟩ = some (.int .i64 y.2)) (first | (go_keep; done) | (exact ⟨sortMove_old c1 _ _ _, sortMove_old c2 _ _ _, sortMove_old c3 _ _ _, sortMove_old c4 _ _ _⟩)) (first | (go_at_call 54; first | (with_reducible refine (h1 _).mono ?_; rintro e w' ⟨rfl, rfl⟩) | (with_reducible refine (h2 _).mono ?_; rintro e w' ⟨rfl, rfl⟩)) | (go_at_call 53; refine (hor _ _ (sortMove_new _ _ _ (by simp))).mono ?_; rintro e w4 ⟨rfl, q4, os4, rfl⟩))
  all_goals go_wp2
  all_goals go_ret
  all_goals refine ⟨rfl, ?_⟩
  all_goals rw [← HW2.out]
  all_goals exact ⟨_, _, sortMove_grow3 W _ _ _ _ _⟩
theorem sortMove_lays (blk off size : Nat) (w : World) : CmpLays Tryz.prog 52 #[] encMv 2 cmpMv blk off size w := fun _ _ _ _ x y => sortMove_cmp x y _
def flatMv (l : List (Int × Int)) : List Value := l.flatMap encMv
theorem flatMv_length (l : List (Int × Int)) : (flatMv l).length = l.length * 2 := by
  induction l with
  | nil => rfl
  | cons a l ih => simp [flatMv, encMv] at *; omega
theorem flatMv_get : ∀ (l : List (Int × Int)) (t : Nat), t < l.length * 2 → (flatMv l)[t]? = some ((encMv (l.toArray[t / 2]!))[t % 2]!)
  | [], t, h => by simp at h
  | a :: l, t, h => by
    by_cases h2 : t < 2
    · have : t = 0 ∨ t = 1 := by omega
      rcases this with rfl | rfl <;> simp [flatMv, encMv]
    · obtain ⟨u, rfl⟩ : ∃ u, t = u + 2 := ⟨t - 2, by omega⟩
      have ih := flatMv_get l u (by simp at h; omega)
      have e1 : (u + 2) / 2 = u / 2 + 1 := by omega
      have e2 : (u + 2) % 2 = u % 2 := by omega
      rw [e1, e2]
      have e3 : (flatMv (a :: l))[u + 2]? = (flatMv l)[u]? := by simp [flatMv, encMv]
      rw [e3, ih]
      congr 2
      simp
def srtMv (l : List (Int × Int)) : List (Int × Int) := l.mergeSort fun x y => !(ltOf cmpMv) y x
theorem srtMv_length (l : List (Int × Int)) : (srtMv l).length = l.length := List.length_mergeSort l
theorem sortMove_raw (v : Value) (base : Nat) (w : World) (l : List (Int × Int)) (hown : w.ownsRow base 38 2 v l.length (flatMv l)) (hsz : l.length < 4611686018427387904) :
    Calls Tryz.prog 51 #[v, .func (.func 52) #[] #[]] w fun e w' => e = .returned (.tuple #[]) ∧ w'.ownsRow base 38 2 v l.length (flatMv (srtMv l)) ∧ w.grownBy w' v.ownBlock := by
  obtain ⟨hl, ⟨rfl, h0⟩ | ⟨g, cap, cur, rfl, hg, hh, hn, hcm, hcs, htk⟩⟩ := hown
  · obtain rfl : l = [] := List.length_eq_zero_iff.1 h0
    have hcon := AnyF.slices_SortFunc_none (P := Tryz.prog) { Tryz.sortMove with } none 0 (.func (.func 52) #[] #[]) w
    refine hcon.mono ?_
    rintro e w' ⟨rfl, hw⟩
    subst hw
    exact ⟨rfl, ⟨by rw [flatMv_length, srtMv_length], .inl ⟨rfl, rfl⟩⟩, rfl, rfl, rfl, Nat.le_refl _, fun _ _ _ => rfl⟩
  · have eg : ∀ args w, (callFunc 52 args).run Tryz.prog w = .ok (.enter 52 args) w := enters_of Tryz.func52 (by kernel_rfl) rfl
    have hblk : g < w.heap.size := blk_lt hh
    have hget : ∀ t, t < l.length * 2 → cur[t]? = some ((Sort.flatK encMv 2 l.toArray)[t]!) := by
      intro t ht
      rw [Sort.get_flatK _ _ _ _ (by simpa using ht), ← flatMv_get l t ht, ← htk, List.getElem?_take_of_lt ht, Array.getElem?_toList]
    have hH : Sort.HoldsK encMv 2 w g 0 l.toArray := by
      intro j hj
      have hj' : j < l.length * 2 := by simpa using hj
      exact ⟨by rw [blk_cell hh, Nat.zero_add, hget j hj']; rfl, blk_frozen hh _⟩
    have hcon := AnyQ.slices_SortFunc_total Tryz.sortMove 2 Tryz.isAgg38 Tryz.sizeOf38 encMv (fun _ => rfl) (fun x v hv => by simp [encMv] at hv; rcases hv with rfl | rfl <;> rfl) cmpMv cmpMv_swo 52 #[] g 0 cap l.toArray w eg (sortMove_lays g 0 l.toArray.size w) hH hblk (by simpa using hsz) cmpMv_total
    refine hcon.mono ?_
    rintro e w' ⟨rfl, n, os, rfl⟩
    have hd : (l.toArray.toList.mergeSort fun x y => !(ltOf cmpMv) y x).toArray = (srtMv l).toArray := rfl
    rw [hd]
    have hF : (Sort.flatK encMv 2 (srtMv l).toArray).size = l.length * 2 := by simp [srtMv_length]
    have hsz' : l.length * 2 ≤ cur.size := by rw [hcs]; exact Nat.mul_le_mul_right 2 hn
    have hheap : (sortWorldK encMv 2 w g 0 n (srtMv l).toArray os).heap[g]? = some (.cells (Sort.putCells id 0 (Sort.flatK encMv 2 (srtMv l).toArray) cur) 38 (0, 0)) := by
      show ((w.heap.modify g (Sort.onCells (Sort.putCells id 0 (Sort.flatK encMv 2 (srtMv l).toArray)))) ++ os)[g]? = _
      rw [Array.getElem?_append_left (by simpa using hblk), Array.getElem?_modify, if_pos rfl, hh]
      rfl
    refine ⟨rfl, ⟨by rw [flatMv_length, srtMv_length], .inr ⟨g, cap, _, rfl, hg, hheap, hn, hcm, ?_, ?_⟩⟩, rfl, rfl, rfl, ?_, ?_⟩
    · rw [← hcs]; simp [Sort.putCells]
    · apply List.ext_getElem?
      intro t
      by_cases ht : t < l.length * 2
      · rw [List.getElem?_take_of_lt ht, Array.getElem?_toList, flatMv_get _ _ (by rw [srtMv_length]; exact ht)]
        unfold Sort.putCells
        rw [Array.getElem?_mapIdx, hget t ht, Option.map_some, if_pos ⟨Nat.zero_le _, by rw [hF]; omega⟩]
        rw [Nat.sub_zero, Sort.get_flatK _ _ _ _ (by simpa [srtMv_length] using ht)]
        rfl
      · rw [List.getElem?_eq_none (by rw [List.length_take]; omega), List.getElem?_eq_none (by rw [flatMv_length, srtMv_length]; omega)]
    · show w.heap.size ≤ ((w.heap.modify g (Sort.onCells (Sort.putCells id 0 (Sort.flatK encMv 2 (srtMv l).toArray)))) ++ os).size
      simp
    · intro k hk hne
      show ((w.heap.modify g (Sort.onCells (Sort.putCells id 0 (Sort.flatK encMv 2 (srtMv l).toArray)))) ++ os)[k]? = _
      rw [Array.getElem?_append_left (by simpa using hk), Array.getElem?_modify, if_neg (fun e => hne (by rw [e]; rfl))]
def toMv (l : List S38) : List (Int × Int) := l.map fun x => (x.f0, x.f1)
def ofMv (l : List (Int × Int)) : List S38 := l.map fun x => ⟨x.1, x.2⟩
theorem Reps_mv (w : World) (base : Nat) (ok : Nat → Prop) : ∀ (l : List S38) (inner : List Value), Reps (k38.M w base ok) 2 l inner ↔ inner = flatMv (toMv l)
  | [], inner => ⟨fun h => List.length_eq_zero_iff.1 (by simpa using h.1), fun h => by subst h; exact Reps.none _ _⟩
  | a :: l, inner => by
    have ih := Reps_mv w base ok l
    constructor
    · intro ⟨hl, hr⟩
      have h0 := k38_openM (hr 0 a rfl)
      have h1 : Reps (k38.M w base ok) 2 l (inner.drop 2) := ⟨by simp at hl ⊢; omega, fun j p hp => by have := hr (j + 1) p (by simpa using hp); rwa [List.drop_drop, show 2 + j * 2 = (j + 1) * 2 by omega]⟩
      have h2 := (ih _).1 h1
      rw [← List.take_append_drop 2 inner, h2]
      simp only [Nat.zero_mul, List.drop_zero] at h0
      rw [h0]
      rfl
    · rintro rfl
      have h1 := (ih _).2 rfl
      refine ⟨by simp [flatMv_length, toMv], fun j p hp => ?_⟩
      cases j with
      | zero => obtain rfl : a = p := by simpa using hp
                exact k38_mkM w base ok a
      | succ j =>
        have := h1.2 j p (by simpa using hp)
        have e : (flatMv (toMv (a :: l))).drop ((j + 1) * 2) = (flatMv (toMv l)).drop (j * 2) := by
          rw [show (j + 1) * 2 = 2 + j * 2 by omega, ← List.drop_drop]
          rfl
        rwa [e]
def slices_SortFunc_Move.f (l : List S38) : Option (List S38) := if l.length < 4611686018427387904 then some (ofMv (srtMv (toMv l))) else none
theorem slices_SortFunc_Move.calls (P0_ : Nat → Prop) (u9000_ : Value) (l0 : List S38) (r : List S38) (w0 w : World) (hG : GW w0) (hB : Below w0.heap.size w0 w) (ho0 : Kd.R k38 38 w w0.heap.size P0_ u9000_ l0) (h : slices_SortFunc_Move.f l0 = some r) :
    Calls Tryz.prog 51 #[u9000_, .func (.func 52) #[] #[]] w fun e w' => e = .returned (.tuple #[]) ∧ Kd.R k38 38 w' w0.heap.size (fun k_ => (P0_ k_ ∨ w.heap.size ≤ k_)) u9000_ r ∧ Below w0.heap.size w0 w' ∧ Kept w w' (fun k_ => P0_ k_) := by
  unfold slices_SortFunc_Move.f at h
  split at h
  case isFalse => exact absurd h (by simp)
  rename_i hlt
  obtain rfl := Option.some.inj h
  obtain ⟨hok, inner, hown, hreps⟩ := ho0
  obtain rfl := (Reps_mv _ _ _ _ _).1 hreps
  have e1 : (toMv l0).length = l0.length := by simp [toMv]
  have e2 : (ofMv (srtMv (toMv l0))).length = l0.length := by simp [ofMv, srtMv_length, e1]
  have e3 : toMv (ofMv (srtMv (toMv l0))) = srtMv (toMv l0) := by simp only [toMv, ofMv, List.map_map]; exact (List.map_congr_left (fun _ _ => rfl)).trans (List.map_id _)
  refine (sortMove_raw u9000_ w0.heap.size w (toMv l0) (by rw [e1]; exact hown) (by rw [e1]; exact hlt)).mono ?_
  rintro e w' ⟨rfl, hown', hg⟩
  refine ⟨rfl, ⟨fun k hk => .inl (hok k hk), _, ?_, (Reps_mv _ _ _ _ _).2 rfl⟩, hB.grown hg hB.size (own_base hown), Kept.of_grown hg (Kept.refl _ _) (fun k hk => .inl (hok k hk))⟩
  rw [e3, e2, ← e1]
  exact hown'
end Go.Proofs.YtdgfnoekgeipiaaGreatDoor.Q
