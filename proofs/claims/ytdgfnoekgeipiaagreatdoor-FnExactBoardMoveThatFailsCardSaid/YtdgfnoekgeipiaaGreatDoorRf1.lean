/- FnExactBoardMoveThatFails: the row and the card: the law returns true at every argument, whatever the tape; each argument reads afterwards as before; by the walk of the law ('laws_FnExactBoardMoveThatFails.calls') and the plain law ('Pl.pureFail'). Conditions: the row's own (the listed variables read as the program's text lays them). -/
import Derived.Lib.Split
import Derived.Lib.Replace
import Derived.Lib.Join
import Derived.Lib.SlTrimSet
import Derived.Deep.Slices
import Derived.Test.YtdgfnoekgeipiaaGreatDoorCards
import Derived.Test.YtdgfnoekgeipiaaGreatDoorTie
import Derived.WalkKit
import Derived.ProofKit
import Derived.OpenShut
import Derived.ShutString
import Derived.ChangeOld
import Derived.Below
import Derived.SizedLaws
import Derived.Deep.DeepHandedRow
import Derived.Lib.SmallJoins
import Derived.Shelf.Vars
import Derived.Test.YtdgfnoekgeipiaaGreatDoorBRf1
import Derived.Test.YtdgfnoekgeipiaaGreatDoorBRf6
set_option linter.unusedVariables false
set_option linter.unusedSimpArgs false
namespace Go.Proofs.YtdgfnoekgeipiaaGreatDoor.Pl
open Go.Lib
def spl (c : UInt8) : List UInt8 → List (List UInt8)
  | [] => [[]]
  | b :: l => if b = c then [] :: spl c l else (b :: (spl c l).headD []) :: (spl c l).tail
theorem spl_ne (c : UInt8) (l : List UInt8) : spl c l ≠ [] := by cases l <;> simp [spl]; split <;> simp
theorem spl_head (c : UInt8) (l : List UInt8) : spl c l = (spl c l).headD [] :: (spl c l).tail := by
  cases h : spl c l with
  | nil => exact absurd h (spl_ne c l)
  | cons a b => rfl
theorem spl_app (c : UInt8) (x : List UInt8) (hx : c ∉ x) (l : List UInt8) : spl c (x ++ c :: l) = x :: spl c l := by
  induction x with
  | nil => simp [spl]
  | cons b x ih =>
    have hb : b ≠ c := fun e => hx (by simp [e])
    rw [List.cons_append, spl, if_neg hb, ih (fun h => hx (List.mem_cons_of_mem _ h))]
    rfl
theorem spl_none (c : UInt8) (x : List UInt8) (hx : c ∉ x) : spl c x = [x] := by
  induction x with
  | nil => rfl
  | cons b x ih =>
    have hb : b ≠ c := fun e => hx (by simp [e])
    rw [spl, if_neg hb, ih (fun h => hx (List.mem_cons_of_mem _ h))]
    rfl
theorem spl_cases (c : UInt8) (s : List UInt8) : c ∉ s ∨ ∃ x l, s = x ++ c :: l ∧ c ∉ x := by
  induction s with
  | nil => exact .inl (by simp)
  | cons b s ih =>
    by_cases hb : b = c
    · exact .inr ⟨[], s, by simp [hb], by simp⟩
    · rcases ih with h | ⟨x, l, rfl, hx⟩
      · exact .inl (by simp [h]; exact fun e => hb e.symm)
      · exact .inr ⟨b :: x, l, rfl, by simp [hx]; exact fun e => hb e.symm⟩
theorem spl_rec {c : UInt8} {p : List UInt8 → Prop} (h0 : ∀ s, c ∉ s → p s) (h1 : ∀ x l, c ∉ x → p l → p (x ++ c :: l)) : ∀ s, p s := by
  intro s
  induction hn : s.length using Nat.strongRecOn generalizing s with
  | _ n ih =>
    rcases spl_cases c s with h | ⟨x, l, rfl, hx⟩
    · exact h0 s h
    · exact h1 x l hx (ih l.length (by simp at hn; omega) l rfl)
theorem index_miss1 (c : UInt8) : ∀ s : List UInt8, c ∉ s → index s [c] = -1
  | [], _ => rfl
  | b :: s, h => by
    have hb : ¬ c = b := fun e => h (by simp [e])
    have ih := index_miss1 c s (fun h' => h (List.mem_cons_of_mem _ h'))
    simp [index, hb, ih, List.isPrefixOf]
theorem index_hit1 (c : UInt8) : ∀ (x l : List UInt8), c ∉ x → index (x ++ c :: l) [c] = x.length
  | [], l, _ => by simp [index, List.isPrefixOf]
  | b :: x, l, h => by
    have hb : ¬ c = b := fun e => h (by simp [e])
    have ih := index_hit1 c x l (fun h' => h (List.mem_cons_of_mem _ h'))
    have : ¬ ((x.length : Int) = -1) := by omega
    simp [index, hb, ih, List.isPrefixOf, this]
theorem count_miss1 (c : UInt8) (s : List UInt8) (h : c ∉ s) : count s [c] = 0 := count_miss (index_miss1 c s h)
theorem drop_hit (c : UInt8) (x l : List UInt8) : (x ++ c :: l).drop (x.length + 1) = l := by
  rw [← List.drop_drop, List.drop_left]; rfl
theorem count_hit1 (c : UInt8) (x l : List UInt8) (h : c ∉ x) : count (x ++ c :: l) [c] = 1 + count l [c] := by
  rw [count_hit (by simp) (index_hit1 c x l h)]
  simp [drop_hit]
theorem split_spl (c : UInt8) : ∀ s, splitK [c] 0 (count s [c]) s = spl c s := by
  refine @spl_rec c (fun s => splitK [c] 0 (count s [c]) s = spl c s) ?_ ?_
  · intro s h
    rw [count_miss1 c s h, spl_none c s h]; rfl
  · intro x l hx ih
    rw [count_hit1 c x l hx, spl_app c x hx l, Nat.add_comm, splitK, index_hit1 c x l hx, if_neg (by simp)]
    simp [drop_hit, ih]
theorem replace_spl (c : UInt8) : ∀ s, replaceK [c] [] (count s [c]) s = (spl c s).flatten := by
  refine @spl_rec c (fun s => replaceK [c] [] (count s [c]) s = (spl c s).flatten) ?_ ?_
  · intro s h
    rw [count_miss1 c s h, spl_none c s h]; simp [replaceK]
  · intro x l hx ih
    rw [count_hit1 c x l hx, spl_app c x hx l, Nat.add_comm, replaceK, index_hit1 c x l hx, if_neg (by simp)]
    simp [drop_hit, ih]
theorem replaceAll_spl (c : UInt8) (s : List UInt8) : replaceAll s [c] [] = (spl c s).flatten := by
  rw [← replace_spl]
  simp [replaceAll, replace, replaceNum]
theorem spl_len (c : UInt8) : ∀ s, ((spl c s).map fun r => r.length + 1).sum = s.length + 1 := by
  refine @spl_rec c (fun s => ((spl c s).map fun r => r.length + 1).sum = s.length + 1) ?_ ?_
  · intro s h
    rw [spl_none c s h]; simp
  · intro x l hx ih
    rw [spl_app c x hx l]
    simp [ih]; omega
end Go.Proofs.YtdgfnoekgeipiaaGreatDoor.Pl
namespace Go.Proofs.YtdgfnoekgeipiaaGreatDoor.Pl
open Go.RowKit Go.Proofs.YtdgfnoekgeipiaaGreatDoorW.PrintWords Go.Proofs.YtdgfnoekgeipiaaGreatDoorW.PrintLast Go.Proofs.YtdgfnoekgeipiaaGreatDoor.Q Go.Lib
def mk (l : List UInt8) : ByteArray := ⟨l.toArray⟩
@[simp] theorem mk_data (l : List UInt8) : (mk l).data.toList = l := by simp [mk]
@[simp] theorem mk_size (l : List UInt8) : (mk l).size = l.length := by simp [mk, ByteArray.size]
theorem eq_mk {s : ByteArray} {l : List UInt8} (h : s.data.toList = l) : s = mk l := by
  subst h; cases s; simp [mk]
theorem size_len (a : ByteArray) : a.size = a.data.toList.length := (data_length a).symm
theorem extract_mk (a : ByteArray) (i j : Nat) : a.extract i j = mk ((a.data.toList.drop i).take (j - i)) := eq_mk (by rw [extract_data])
theorem bt_get (a : ByteArray) (i : Nat) (b : UInt8) (h : a.data.toList[i]? = some b) : bt a (i : Int) = (b.toNat : Int) := by
  obtain ⟨hl, hb⟩ := List.getElem?_eq_some_iff.1 h
  have hl' : i < a.size := by rw [size_len]; exact hl
  have := bt_at a i (by simpa using hl')
  rw [← this, ← hb]
  simp
  rfl
theorem l1Split_ev (a : ByteArray) (ha : a.size ≤ 1000) : ∀ (rest x : List UInt8) (acc : List ByteArray) (p q : Nat), a.data.toList.drop p = x ++ rest → (47 : UInt8) ∉ x → q = p + x.length → q + rest.length = a.size → acc.length ≤ q →
    Ev (fun k => spec_l1Split.l0 k a 47 acc (p : Int) (q : Int)) (acc ++ (spl 47 (x ++ rest)).map mk) := by
  intro rest
  induction rest with
  | nil =>
    intro x acc p q hd hx hq hs hacc
    refine ⟨1, fun k hk => ?_⟩
    obtain ⟨k, rfl⟩ : ∃ j, k = j + 1 := ⟨k - 1, by omega⟩
    simp only [List.length_nil, Nat.add_zero, List.append_nil] at hs hd ⊢
    rw [spec_l1Split.l0, if_neg (by omega), if_pos (by omega), if_pos (by omega), if_pos (by omega), spl_none 47 x hx]
    simp only [Int.toNat_natCast, extract_mk, List.map_cons, List.map_nil]
    rw [hd, List.take_of_length_le (by omega)]
  | cons b rest ih =>
    intro x acc p q hd hx hq hs hacc
    simp only [List.length_cons] at hs
    have hb : a.data.toList[q]? = some b := by
      have : (a.data.toList.drop p)[x.length]? = some b := by rw [hd]; simp
      rwa [List.getElem?_drop, ← hq] at this
    have hbt := bt_get a q b hb
    have hwr : wrap64 ((q : Int) + 1) = ((q + 1 : Nat) : Int) := by unfold wrap64; omega
    by_cases h47 : b = 47
    · subst h47
      refine Ev.step (f := fun k => spec_l1Split.l0 k a 47 (acc ++ [mk x]) ((q + 1 : Nat) : Int) ((q + 1 : Nat) : Int)) (fun k => ?_) ?_
      · show spec_l1Split.l0 (k + 1) a 47 acc (p : Int) (q : Int) = _
        rw [spec_l1Split.l0, if_pos (by omega), if_pos (by omega), hbt, if_pos (by decide), if_pos (by omega), if_pos (by omega), if_pos (by omega), if_pos (by omega), hwr]
        simp only [Int.toNat_natCast, extract_mk]
        rw [hd, show q - p = x.length by omega, List.take_left]
      · have hd' : a.data.toList.drop (q + 1) = [] ++ rest := by
          have : (a.data.toList.drop p).drop (x.length + 1) = rest := by rw [hd]; simp [List.drop_append]
          rw [List.drop_drop] at this
          rw [List.nil_append, ← this]; congr 1; omega
        have := ih [] (acc ++ [mk x]) (q + 1) (q + 1) hd' (by simp) (by simp) (by omega) (by simp; omega)
        rw [spl_app 47 x hx rest]
        simpa using this
    · refine Ev.step (f := fun k => spec_l1Split.l0 k a 47 acc (p : Int) ((q + 1 : Nat) : Int)) (fun k => ?_) ?_
      · show spec_l1Split.l0 (k + 1) a 47 acc (p : Int) (q : Int) = _
        have hne : ¬ ((b.toNat : Int) = 47) := fun e => h47 (UInt8.toNat_inj.1 (by simpa using (by omega : b.toNat = 47)))
        rw [spec_l1Split.l0, if_pos (by omega), if_pos (by omega), hbt, if_neg hne, hwr]
      · have := ih (x ++ [b]) acc p (q + 1) (by rw [hd]; simp) (by simp [hx]; exact fun e => h47 e.symm) (by simp; omega) (by omega) (by omega)
        simpa using this
theorem l1Split (a : ByteArray) (ha : a.size ≤ 1000) : Ev (fun k => spec_l1Split.f k a 47) ((spl 47 a.data.toList).map mk) := by
  have := l1Split_ev a ha a.data.toList [] [] 0 0 (by simp) (by simp) (by simp) (by rw [← size_len]; omega) (by simp)
  simpa [spec_l1Split.f] using this
theorem strings_Split_eq (a : ByteArray) (ha : a.size ≤ 1000) : strings_Split.f a ⟨#[47]⟩ = some ((spl 47 a.data.toList).map mk) := by
  unfold strings_Split.f
  rw [if_pos ⟨by omega, by decide⟩]
  congr 1
  have h := splitB_data ⟨#[47]⟩ 0 (countB a ⟨#[47]⟩) a
  have e : splitK [47] 0 (countB a ⟨#[47]⟩) a.data.toList = spl 47 a.data.toList := split_spl 47 _
  have h2 : (splitB ⟨#[47]⟩ 0 (countB a ⟨#[47]⟩) a).map (·.data.toList) = spl 47 a.data.toList := h.trans e
  rw [← h2, List.map_map]
  exact ((List.map_congr_left (fun s _ => (eq_mk (s := s) rfl).symm)).trans (List.map_id _)).symm
end Go.Proofs.YtdgfnoekgeipiaaGreatDoor.Pl
namespace Go.Proofs.YtdgfnoekgeipiaaGreatDoor.Pl
open Go.RowKit Go.Proofs.YtdgfnoekgeipiaaGreatDoorW.PrintWords Go.Proofs.YtdgfnoekgeipiaaGreatDoorW.PrintLast Go.Proofs.YtdgfnoekgeipiaaGreatDoor.Q Go.Lib
def sg (b : UInt8) : Bool := b == 84 || b == 70 || b == 46
theorem sg_cases {b : UInt8} (h : sg b = true) : b = 84 ∨ b = 70 ∨ b = 46 := by simpa [sg, or_assoc] using h
def okRow (w : Nat) (r : List UInt8) : Bool := decide (1 ≤ r.length) && decide (r.length ≤ 5) && r.all sg && (r.length == w)
def isB (bs : List UInt8) : Bool := decide ((spl 47 bs).length ≤ 5) && (spl 47 bs).all (okRow ((spl 47 bs).headD []).length)
theorem okRow_parts {w : Nat} {r : List UInt8} (h : okRow w r = true) : 1 ≤ r.length ∧ r.length ≤ 5 ∧ (∀ b ∈ r, sg b = true) ∧ r.length = w := by
  simp only [okRow, Bool.and_eq_true, decide_eq_true_eq, List.all_eq_true, beq_iff_eq] at h
  exact ⟨h.1.1.1, h.1.1.2, h.1.2, h.2⟩
theorem sum_le5 : ∀ (R : List (List UInt8)), (∀ r ∈ R, r.length ≤ 5) → (R.map fun r => r.length + 1).sum ≤ 6 * R.length
  | [], _ => by simp
  | r :: R, h => by
    have := sum_le5 R (fun x hx => h x (List.mem_cons_of_mem _ hx))
    have := h r (by simp)
    simp; omega
theorem isB_short {bs : List UInt8} (h : isB bs = true) : bs.length ≤ 29 := by
  simp only [isB, Bool.and_eq_true, decide_eq_true_eq, List.all_eq_true] at h
  have h1 := sum_le5 (spl 47 bs) (fun r hr => (okRow_parts (h.2 r hr)).2.1)
  have h2 := spl_len 47 bs
  omega
theorem sgn (b : UInt8) : ((b.toNat : Int) = 84 ↔ b = 84) ∧ ((b.toNat : Int) = 70 ↔ b = 70) ∧ ((b.toNat : Int) = 46 ↔ b = 46) := by
  refine ⟨⟨fun h => UInt8.toNat_inj.1 ?_, fun h => by subst h; rfl⟩, ⟨fun h => UInt8.toNat_inj.1 ?_, fun h => by subst h; rfl⟩, ⟨fun h => UInt8.toNat_inj.1 ?_, fun h => by subst h; rfl⟩⟩ <;> simp <;> omega
theorem liGood_ev (a : ByteArray) (ha : a.size ≤ 1000) : ∀ (rest : List UInt8) (i : Nat), a.data.toList.drop i = rest → i + rest.length = a.size → Ev (fun k => spec_liGood.l0 k a (i : Int)) (rest.all sg) := by
  intro rest
  induction rest with
  | nil =>
    intro i hd hs
    refine ⟨1, fun k hk => ?_⟩
    obtain ⟨k, rfl⟩ : ∃ j, k = j + 1 := ⟨k - 1, by omega⟩
    simp only [List.length_nil] at hs
    show spec_liGood.l0 (k + 1) a (i : Int) = _
    rw [spec_liGood.l0, if_neg (by omega)]; rfl
  | cons b rest ih =>
    intro i hd hs
    simp only [List.length_cons] at hs
    have hb : a.data.toList[i]? = some b := by
      have : (a.data.toList.drop i)[0]? = some b := by rw [hd]; rfl
      rwa [List.getElem?_drop] at this
    have hbt := bt_get a i b hb
    have hwr : wrap64 ((i : Int) + 1) = ((i + 1 : Nat) : Int) := by unfold wrap64; omega
    have hd' : a.data.toList.drop (i + 1) = rest := by
      rw [← List.drop_drop, hd]; rfl
    have hi := ih (i + 1) hd' (by omega)
    obtain ⟨s1, s2, s3⟩ := sgn b
    by_cases hg : sg b = true
    · refine Ev.step (f := fun k => spec_liGood.l0 k a ((i + 1 : Nat) : Int)) (fun k => ?_) ?_
      · show spec_liGood.l0 (k + 1) a (i : Int) = _
        rw [spec_liGood.l0, if_pos (by omega), if_pos (by omega), hbt, hwr]
        rcases sg_cases hg with rfl | rfl | rfl <;> simp
      · simpa [hg] using hi
    · refine ⟨1, fun k hk => ?_⟩
      obtain ⟨k, rfl⟩ : ∃ j, k = j + 1 := ⟨k - 1, by omega⟩
      have n1 : ¬ b = 84 := fun e => hg (by subst e; rfl)
      have n2 : ¬ b = 70 := fun e => hg (by subst e; rfl)
      have n3 : ¬ b = 46 := fun e => hg (by subst e; rfl)
      show spec_liGood.l0 (k + 1) a (i : Int) = _
      rw [spec_liGood.l0, if_pos (by omega), if_pos (by omega), hbt, if_neg (fun h => n1 (s1.1 h)), if_neg (fun h => n2 (s2.1 h)), if_neg (fun h => n3 (s3.1 h))]
      simp [hg]
theorem liGood (r : List UInt8) (hr : r.length ≤ 1000) : Ev (fun k => spec_liGood.f k (mk r)) (decide (1 ≤ r.length) && decide (r.length ≤ 12) && r.all sg) := by
  have hl := liGood_ev (mk r) (by simpa using hr) r 0 (by simp) (by simp)
  unfold spec_liGood.f spec_l1In.f
  simp only [mk_size]
  by_cases h1 : 1 ≤ r.length
  · by_cases h2 : r.length ≤ 12
    · have e1 : ((r.length : Int) ≥ 1) := by omega
      have e2 : ((r.length : Int) ≤ 12) := by omega
      simpa [h1, h2, e1, e2] using hl
    · have e1 : ((r.length : Int) ≥ 1) := by omega
      have e2 : ¬ ((r.length : Int) ≤ 12) := by omega
      simpa [h1, h2, e1, e2] using Ev.now false
  · have e1 : ¬ ((r.length : Int) ≥ 1) := by omega
    simpa [h1, e1] using Ev.now false
theorem dw_nil {α : Type} (p : α → Bool) : ∀ l : List α, l.dropWhile p = [] ↔ ∀ b ∈ l, p b = true
  | [] => by simp
  | x :: l => by
    rw [List.dropWhile_cons]
    by_cases h : p x = true
    · rw [if_pos h, dw_nil p l]; simp [h]
    · rw [if_neg h]; simp [h]
theorem trimS_nil (l cs : List UInt8) : (trimS l cs = [] ↔ ∀ b ∈ l, cs.contains b = true) := by
  unfold trimS trimLeftS trimRightS
  constructor
  · intro h
    have h1 := (dw_nil _ _).1 h
    cases hd : l.reverse.dropWhile (cs.contains ·) with
    | nil => intro b hb; exact (dw_nil _ _).1 hd b (by simpa using hb)
    | cons x r =>
      have hx := List.head_dropWhile_not (l := l.reverse) (cs.contains ·) (by rw [hd]; simp)
      have : cs.contains x = true := h1 x (by rw [hd]; simp)
      simp only [hd, List.head_cons] at hx
      rw [this] at hx
      exact absurd hx (by simp)
  · intro h
    have : l.reverse.dropWhile (cs.contains ·) = [] := (dw_nil _ _).2 (fun b hb => h b (by simpa using hb))
    rw [this]; rfl
theorem isLineOf (r : List UInt8) (hr : r.length ≤ 1000) : impl_isLineOf.f (mk r) 5 = some (decide (1 ≤ r.length) && decide (r.length ≤ 5) && r.all sg) := by
  unfold impl_isLineOf.f impl_within.f strings_Trim.f
  simp only [mk_size, mk_data]
  by_cases h1 : 1 ≤ r.length
  · by_cases h2 : r.length ≤ 5
    · have e1 : ((1 : Int) ≤ r.length) := by omega
      have e2 : ((r.length : Int) ≤ 5) := by omega
      rw [if_pos e1, Option.bind_some, if_pos (by simpa using e2), if_pos ⟨by omega, by decide, by decide⟩]
      simp only [Option.bind_some, h1, h2, decide_true, Bool.true_and]
      congr 1
      rw [Bool.eq_iff_iff, List.all_eq_true]
      have ht := trimS_nil r [46, 70, 84]
      have hc : ∀ b : UInt8, ([46, 70, 84] : List UInt8).contains b = sg b := by
        intro b
        rw [Bool.eq_iff_iff]
        simp [sg]
        constructor
        · rintro (h | h | h) <;> simp [h]
        · rintro ((h | h) | h) <;> simp [h]
      constructor
      · intro h b hb
        have h' : trimS r [46, 70, 84] = [] := by simpa using h
        rw [← hc]
        exact ht.1 h' b hb
      · intro h
        have h' : trimS r [46, 70, 84] = [] := ht.2 (fun b hb => by rw [hc]; exact h b hb)
        simp [h', mk]
    · have e1 : ((1 : Int) ≤ r.length) := by omega
      have e2 : ¬ ((r.length : Int) ≤ 5) := by omega
      rw [if_pos e1, Option.bind_some, if_neg (by simpa using e2)]
      simp [h2]
  · have e1 : ¬ ((1 : Int) ≤ r.length) := by omega
    rw [if_neg e1]
    simp [h1]
theorem rdOf_mk (R : List (List UInt8)) (i : Nat) (r : List UInt8) (h : R[i]? = some r) : rdOf ByteArray.empty (R.map mk) (i : Int) = mk r := by
  unfold rdOf
  simp [List.getD_eq_getElem?_getD, h]
theorem boRows_ev (R : List (List UInt8)) (hlen : R.length ≤ 1000) (hsz : ∀ r ∈ R, r.length ≤ 1000) (hne : R ≠ []) : ∀ (rest : List (List UInt8)) (i : Nat), R.drop i = rest →
    Ev (fun k => spec_boRows.l0 k (R.map mk) (R.map mk) (R.length : Int) (i : Int)) (if rest.all (okRow (R.headD []).length) = true then (R.map mk, true) else ([], false)) := by
  intro rest
  induction rest with
  | nil =>
    intro i hd
    have hi : R.length ≤ i := List.drop_eq_nil_iff.1 hd
    refine ⟨1, fun k hk => ?_⟩
    obtain ⟨k, rfl⟩ : ∃ j, k = j + 1 := ⟨k - 1, by omega⟩
    show spec_boRows.l0 (k + 1) (R.map mk) (R.map mk) (R.length : Int) (i : Int) = _
    rw [spec_boRows.l0, if_neg (by omega)]; simp
  | cons r rest ih =>
    intro i hd
    have hr : R[i]? = some r := by
      have : (R.drop i)[0]? = some r := by rw [hd]; rfl
      rwa [List.getElem?_drop] at this
    have hi : i < R.length := (List.getElem?_eq_some_iff.1 hr).1
    have hmem : r ∈ R := List.mem_of_getElem? hr
    have hwr : wrap64 ((i : Int) + 1) = ((i + 1 : Nat) : Int) := by unfold wrap64; omega
    have hd' : R.drop (i + 1) = rest := by rw [← List.drop_drop, hd]; rfl
    have hrest := ih (i + 1) hd'
    obtain ⟨h0, R', hR⟩ : ∃ h0 R', R = h0 :: R' := by
      cases R with
      | nil => exact absurd rfl hne
      | cons a b => exact ⟨a, b, rfl⟩
    have hrd0 : rdOf ByteArray.empty (R.map mk) 0 = mk h0 := rdOf_mk R 0 h0 (by rw [hR]; rfl)
    have hhd : R.headD [] = h0 := by rw [hR]; rfl
    rw [hhd] at hrest ⊢
    refine Ev.step (f := fun k => (spec_liGood.f k (mk r)).bind fun t => if t = true then (if ((mk r).size : Int) > 5 then some (([] : List ByteArray), false) else (if ((mk r).size : Int) = ((mk h0).size : Int) then spec_boRows.l0 k (R.map mk) (R.map mk) (R.length : Int) ((i + 1 : Nat) : Int) else some (([] : List ByteArray), false))) else some (([] : List ByteArray), false)) (fun k => ?_) ?_
    · show spec_boRows.l0 (k + 1) (R.map mk) (R.map mk) (R.length : Int) (i : Int) = _
      have e1 : (0 : Int) < ((R.map mk).length : Int) := by simp; omega
      rw [spec_boRows.l0, if_pos (by omega), if_pos (by omega), if_pos (by simp; omega), rdOf_mk R i r hr, hrd0, hwr]
      simp only [if_pos e1]
    · refine Ev.bind (liGood r (hsz r hmem)) ?_
      by_cases hg : (decide (1 ≤ r.length) && decide (r.length ≤ 12) && r.all sg) = true
      · rw [hg]
        simp only [Bool.and_eq_true, decide_eq_true_eq] at hg
        by_cases h5 : r.length ≤ 5
        · have n5 : ¬ ((mk r).size : Int) > 5 := by simp; omega
          by_cases hw : r.length = h0.length
          · have e2 : ((mk r).size : Int) = ((mk h0).size : Int) := by simp [hw]
            simp only [if_true, if_neg n5, if_pos e2]
            have : okRow h0.length r = true := by simp [okRow, hg.1.1, h5, hw, hg.2]; rw [← hw]; exact ⟨hg.1.1, h5⟩
            simpa [this] using hrest
          · have e2 : ¬ ((mk r).size : Int) = ((mk h0).size : Int) := by simp; omega
            simp only [if_true, if_neg n5, if_neg e2]
            have : okRow h0.length r = false := by simp [okRow, hw]
            simpa [this] using Ev.now (([] : List ByteArray), false)
        · have n5 : ((mk r).size : Int) > 5 := by simp; omega
          simp only [if_true, if_pos n5]
          have : okRow h0.length r = false := by simp [okRow]; intro _ h; exact absurd h h5
          simpa [this] using Ev.now (([] : List ByteArray), false)
      · have hf : (decide (1 ≤ r.length) && decide (r.length ≤ 12) && r.all sg) = false := by simpa using hg
        rw [hf]
        have : okRow h0.length r = false := by
          cases ho : okRow h0.length r with
          | false => rfl
          | true =>
            obtain ⟨q1, q2, q3, q4⟩ := okRow_parts ho
            have : (decide (1 ≤ r.length) && decide (r.length ≤ 12) && r.all sg) = true := by
              simp only [Bool.and_eq_true, decide_eq_true_eq, List.all_eq_true]; exact ⟨⟨q1, by omega⟩, q3⟩
            rw [hf] at this; exact absurd this (by simp)
        simpa [this] using Ev.now (([] : List ByteArray), false)
theorem spl_small {bs : List UInt8} {n : Nat} (h : bs.length ≤ n) : ∀ r ∈ spl 47 bs, r.length ≤ n := by
  intro r hr
  have h1 := spl_len 47 bs
  have h2 : ∀ (R : List (List UInt8)), r ∈ R → r.length + 1 ≤ (R.map fun r => r.length + 1).sum := by
    intro R
    induction R with
    | nil => simp
    | cons a R ih =>
      intro hm
      rcases List.mem_cons.1 hm with rfl | hm
      · simp
      · have := ih hm; simp; omega
  have := h2 _ hr
  omega
theorem boRows (a : ByteArray) : Ev (fun k => spec_boRows.f k a) (if isB a.data.toList = true then ((spl 47 a.data.toList).map mk, true) else ([], false)) := by
  have hsl := size_len a
  unfold spec_boRows.f
  by_cases h40 : (a.size : Int) > 40
  · have hn : ¬ isB a.data.toList = true := fun h => by have := isB_short h; omega
    simp only [if_pos h40, if_neg hn]
    exact Ev.now _
  · simp only [if_neg h40]
    refine Ev.bind (l1Split a (by omega)) ?_
    have hpos : 1 ≤ (spl 47 a.data.toList).length := by
      have := spl_ne 47 a.data.toList
      cases h : spl 47 a.data.toList with
      | nil => exact absurd h this
      | cons x y => simp [h]
    unfold spec_l1In.f
    simp only [List.length_map]
    rw [if_pos (by omega)]
    simp only [Option.bind_some, decide_eq_true_eq]
    by_cases h5 : (spl 47 a.data.toList).length ≤ 5
    · have e5 : ((spl 47 a.data.toList).length : Int) ≤ 5 := by omega
      have := boRows_ev (spl 47 a.data.toList) (by omega) (fun r hr => Nat.le_trans (spl_small (n := 40) (by omega) r hr) (by omega)) (spl_ne _ _) (spl 47 a.data.toList) 0 (by simp)
      simp only [if_pos e5]
      simpa [isB, h5] using this
    · have e5 : ¬ ((spl 47 a.data.toList).length : Int) ≤ 5 := by omega
      simp only [if_neg e5]
      simpa [isB, h5] using Ev.now (([] : List ByteArray), false)
theorem isBoard (a : ByteArray) : impl_IsBoard.f a = some (isB a.data.toList) := by
  have hsl := size_len a
  unfold impl_IsBoard.f
  by_cases h30 : 30 < a.size
  · have hn : isB a.data.toList = false := by
      cases h : isB a.data.toList with
      | false => rfl
      | true => have := isB_short h; omega
    rw [if_pos h30, hn]
  · rw [if_neg h30, strings_Split_eq a (by omega), Option.bind_some]
    simp only [List.length_map]
    obtain ⟨R, hR⟩ : ∃ R, spl 47 a.data.toList = R := ⟨_, rfl⟩
    have hne : R ≠ [] := hR ▸ spl_ne _ _
    have hsm : ∀ r ∈ R, r.length ≤ 1000 := fun r hr => Nat.le_trans (spl_small (n := 30) (bs := a.data.toList) (by omega) r (hR ▸ hr)) (by omega)
    unfold isB
    rw [hR]
    obtain ⟨h0, R', rfl⟩ : ∃ h0 R', R = h0 :: R' := by
      cases R with
      | nil => exact absurd rfl hne
      | cons a b => exact ⟨a, b, rfl⟩
    by_cases h5 : (h0 :: R').length ≤ 5
    · have hp : ∀ r ∈ (h0 :: R'), impl_IsBoard.p (mk h0) (mk r) = some (!(okRow h0.length r)) := by
        intro r hr
        unfold impl_IsBoard.p
        rw [isLineOf r (hsm r hr), Option.bind_some]
        congr 1
        simp only [mk_size, okRow]
        cases (decide (1 ≤ r.length) && decide (r.length ≤ 5) && r.all sg) <;> simp [bne]
      have hg : (List.map mk (h0 :: R')).getD 0 ByteArray.empty = mk h0 := rfl
      rw [if_pos h5, hg]
      have hall : (List.map mk (h0 :: R')).all (fun r => (impl_IsBoard.p (mk h0) r).isSome) = true := by
        rw [List.all_eq_true]
        intro r hr
        obtain ⟨r', hr', rfl⟩ := List.mem_map.1 hr
        rw [hp r' hr']; rfl
      rw [if_pos hall]
      congr 1
      have hany : (List.map mk (h0 :: R')).any (fun r => (impl_IsBoard.p (mk h0) r).getD true) = !((h0 :: R').all (okRow h0.length)) := by
        rw [List.any_map]
        rw [Bool.eq_iff_iff, Bool.not_eq_true', List.any_eq_true]
        simp only [Function.comp]
        rw [← Bool.not_eq_true, List.all_eq_true]
        constructor
        · rintro ⟨r, hr, h⟩ hall
          rw [hp r hr] at h
          simp [hall r hr] at h
        · intro h
          simp only [Classical.not_forall] at h
          obtain ⟨r, hr, h⟩ := h
          exact ⟨r, hr, by rw [hp r hr]; simpa using h⟩
      rw [hany, Bool.not_not]
      simp only [List.headD_cons, h5, decide_true, Bool.true_and]
    · rw [if_neg h5, decide_eq_false h5, Bool.false_and]
end Go.Proofs.YtdgfnoekgeipiaaGreatDoor.Pl
namespace Go.Proofs.YtdgfnoekgeipiaaGreatDoor.Pl
open Go.RowKit Go.Proofs.YtdgfnoekgeipiaaGreatDoorW.PrintWords Go.Proofs.YtdgfnoekgeipiaaGreatDoorW.PrintLast Go.Proofs.YtdgfnoekgeipiaaGreatDoor.Q Go.Lib
structure Bd (R : List (List UInt8)) (w : Nat) : Prop where
  n1 : 1 ≤ R.length
  n5 : R.length ≤ 5
  w1 : 1 ≤ w
  w5 : w ≤ 5
  row : ∀ r ∈ R, r.length = w
  sgn : ∀ r ∈ R, ∀ b ∈ r, sg b = true
theorem Bd.of {bs : List UInt8} (h : isB bs = true) : Bd (spl 47 bs) ((spl 47 bs).headD []).length := by
  simp only [isB, Bool.and_eq_true, decide_eq_true_eq, List.all_eq_true] at h
  obtain ⟨h5, h⟩ := h
  have e := spl_head 47 bs
  generalize spl 47 bs = R at *
  cases R with
  | nil => cases e
  | cons a r =>
    have ha := okRow_parts (h a (by simp))
    exact ⟨by simp, h5, ha.1, ha.2.1, fun x hx => (okRow_parts (h x hx)).2.2.2, fun x hx => (okRow_parts (h x hx)).2.2.1⟩
theorem Bd.head {R : List (List UInt8)} {w : Nat} (h : Bd R w) : (R.headD []).length = w := by
  cases R with
  | nil => have := h.n1; simp at this
  | cons a r => exact h.row a (by simp)
theorem flat_get : ∀ (R : List (List UInt8)) (w : Nat), (∀ r ∈ R, r.length = w) → ∀ y x, y < R.length → x < w → R.flatten[y * w + x]? = (R.getD y [])[x]?
  | [], _, _, y, x, hy, _ => by simp at hy
  | r :: R, w, h, 0, x, _, hx => by
    have hr : r.length = w := h r (by simp)
    simp [List.getElem?_append, hr, hx]
  | r :: R, w, h, y + 1, x, hy, hx => by
    have hr : r.length = w := h r (by simp)
    have ih := flat_get R w (fun q hq => h q (List.mem_cons_of_mem _ hq)) y x (by simpa using hy) hx
    have e : (y + 1) * w + x = w + (y * w + x) := by rw [Nat.add_mul]; omega
    rw [List.flatten_cons, e, List.getElem?_append_right (by omega), hr, Nat.add_sub_cancel_left, ih]
    simp
theorem flat_len : ∀ (R : List (List UInt8)) (w : Nat), (∀ r ∈ R, r.length = w) → R.flatten.length = R.length * w
  | [], _, _ => by simp
  | r :: R, w, h => by
    have hr : r.length = w := h r (by simp)
    have ih := flat_len R w (fun q hq => h q (List.mem_cons_of_mem _ hq))
    rw [List.flatten_cons, List.length_append, ih, hr, List.length_cons, Nat.add_mul]; omega
def cellAt (R : List (List UInt8)) (w : Nat) (x y : Int) : Int := if 0 ≤ x ∧ x < w ∧ 0 ≤ y ∧ y < R.length then (((R.getD y.toNat []).getD x.toNat 0).toNat : Int) else -1
theorem cell_get {R : List (List UInt8)} {w : Nat} (h : Bd R w) {y x : Nat} (hy : y < R.length) (hx : x < w) : ∃ b, (R.getD y [])[x]? = some b ∧ sg b = true ∧ (R.getD y []).getD x 0 = b ∧ R[y]? = some (R.getD y []) := by
  have hm : R.getD y [] ∈ R := by simp [List.getD_eq_getElem?_getD, List.getElem?_eq_getElem hy]
  have hl := h.row _ hm
  have hx' : x < (R.getD y []).length := by omega
  exact ⟨_, List.getElem?_eq_getElem hx', h.sgn _ hm _ (List.getElem_mem hx'), by rw [List.getD_eq_getElem?_getD, List.getElem?_eq_getElem hx']; rfl, by simp [List.getD_eq_getElem?_getD, List.getElem?_eq_getElem hy]⟩
theorem cellAt_vals {R : List (List UInt8)} {w : Nat} (h : Bd R w) (x y : Int) : cellAt R w x y = -1 ∧ ¬ (0 ≤ x ∧ x < w ∧ 0 ≤ y ∧ y < R.length) ∨ (0 ≤ x ∧ x < w ∧ 0 ≤ y ∧ y < R.length) ∧ (cellAt R w x y = 84 ∨ cellAt R w x y = 70 ∨ cellAt R w x y = 46) := by
  unfold cellAt
  by_cases hc : 0 ≤ x ∧ x < w ∧ 0 ≤ y ∧ y < R.length
  · rw [if_pos hc]
    obtain ⟨b, _, hb, e, _⟩ := cell_get h (y := y.toNat) (x := x.toNat) (by omega) (by omega)
    rw [e]
    refine .inr ⟨hc, ?_⟩
    rcases sg_cases hb with rfl | rfl | rfl <;> simp
  · rw [if_neg hc]; exact .inl ⟨rfl, hc⟩
theorem boAt {R : List (List UInt8)} {w : Nat} (h : Bd R w) (x y : Int) : spec_boAt.f (R.map mk) x y = some (if cellAt R w x y = -1 then 32 else cellAt R w x y) := by
  obtain ⟨h0, R', hR⟩ : ∃ h0 R', R = h0 :: R' := by
    cases R with
    | nil => have := h.n1; simp at this
    | cons a b => exact ⟨a, b, rfl⟩
  have hrd0 : rdOf ByteArray.empty (R.map mk) 0 = mk h0 := rdOf_mk R 0 h0 (by rw [hR]; rfl)
  have hw : h0.length = w := h.row h0 (by rw [hR]; simp)
  have n1 := h.n1
  have n5 := h.n5
  have w1 := h.w1
  have w5 := h.w5
  have k1 : wrap64 ((R.length : Int) - 1) = (R.length : Int) - 1 := by unfold wrap64; omega
  have k2 : wrap64 ((w : Int) - 1) = (w : Int) - 1 := by unfold wrap64; omega
  have e0 : (0 : Int) < (R.length : Int) := by omega
  unfold spec_boAt.f spec_l1In.f
  simp only [List.length_map, hrd0, mk_size, hw, k1, k2]
  by_cases hy0 : y ≥ 0
  · by_cases hy1 : y ≤ (R.length : Int) - 1
    · by_cases hx0 : x ≥ 0
      · by_cases hx1 : x ≤ (w : Int) - 1
        · obtain ⟨b, hb, hs, hd, hr⟩ := cell_get h (y := y.toNat) (x := x.toNat) (by omega) (by omega)
          have hrd : rdOf ByteArray.empty (R.map mk) y = mk (R.getD y.toNat []) := by
            have := rdOf_mk R y.toNat _ hr
            rwa [Int.toNat_of_nonneg hy0] at this
          have hbt : bt (mk (R.getD y.toNat [])) x = (b.toNat : Int) := by
            have := bt_get (mk (R.getD y.toNat [])) x.toNat b (by simpa using hb)
            rwa [Int.toNat_of_nonneg hx0] at this
          have hlen : (R.getD y.toNat []).length = w := h.row _ (List.mem_of_getElem? hr)
          have hc : cellAt R w x y = (b.toNat : Int) := by unfold cellAt; rw [if_pos ⟨hx0, by omega, hy0, by omega⟩, hd]
          have hne : ¬ (cellAt R w x y = -1) := by rw [hc]; omega
          rw [if_neg hne, hc, if_pos hy0]
          simp only [Option.bind_some, hy1, decide_true, if_true, if_pos e0, if_pos hx0, hx1, if_pos (show y < (R.length : Int) by omega), hrd, mk_size, hlen, if_pos (show x < (w : Int) by omega), hbt]
          simp [hx0, hy0]
        · have hc : cellAt R w x y = -1 := by unfold cellAt; rw [if_neg (by omega)]
          rw [hc, if_pos hy0]
          simp only [Option.bind_some, hy1, decide_true, if_true, if_pos e0, if_pos hx0, hx1, decide_false]
          simp
      · have hc : cellAt R w x y = -1 := by unfold cellAt; rw [if_neg (by omega)]
        rw [hc, if_pos hy0]
        simp only [Option.bind_some, hy1, decide_true, if_true, if_pos e0, if_neg hx0]
        simp
    · have hc : cellAt R w x y = -1 := by unfold cellAt; rw [if_neg (by omega)]
      rw [hc, if_pos hy0]
      simp [hy1]
  · have hc : cellAt R w x y = -1 := by unfold cellAt; rw [if_neg (by omega)]
    rw [hc, if_neg hy0]
    simp
theorem sign {R : List (List UInt8)} {w : Nat} (h : Bd R w) (x y : Int) (hx : -1000 ≤ x ∧ x ≤ 1000) (hy : -1000 ≤ y ∧ y ≤ 1000) : impl_board_sign.f (mk R.flatten) w x y = some (if cellAt R w x y = -1 then 0 else cellAt R w x y) := by
  have n1 := h.n1
  have n5 := h.n5
  have w1 := h.w1
  have w5 := h.w5
  have hfl := flat_len R w h.row
  have k2 : wrap64 ((w : Int) - 1) = (w : Int) - 1 := by unfold wrap64; omega
  have kh : wrap64 (((R.length * w : Nat) : Int) / (w : Int)) = (R.length : Int) := by
    rw [Int.natCast_mul, Int.mul_ediv_cancel _ (by omega)]; unfold wrap64; omega
  have k1 : wrap64 ((R.length : Int) - 1) = (R.length : Int) - 1 := by unfold wrap64; omega
  unfold impl_board_sign.f impl_within.f impl_board_high.f
  simp only [mk_size, hfl, k2, kh]
  rw [if_neg (show ¬ (w : Int) = 0 by omega)]
  by_cases hx0 : 0 ≤ x
  · by_cases hx1 : x ≤ (w : Int) - 1
    · by_cases hy0 : 0 ≤ y
      · by_cases hy1 : y ≤ (R.length : Int) - 1
        · obtain ⟨b, hb, hs, hd, hr⟩ := cell_get h (y := y.toNat) (x := x.toNat) (by omega) (by omega)
          have hyw : y * (w : Int) ≤ 5 * 5 := by
            exact Int.mul_le_mul (show y ≤ 5 by omega) (show (w : Int) ≤ 5 by omega) (show (0 : Int) ≤ w by omega) (show (0 : Int) ≤ 5 by omega)
          have hyw0 : 0 ≤ y * (w : Int) := Int.mul_nonneg hy0 (by omega)
          have kw : wrap64 (wrap64 (y * (w : Int)) + x) = y * (w : Int) + x := by
            rw [show wrap64 (y * (w : Int)) = y * (w : Int) by unfold wrap64; omega]; unfold wrap64; omega
          have hidx : y * (w : Int) + x = ((y.toNat * w + x.toNat : Nat) : Int) := by
            rw [Int.natCast_add, Int.natCast_mul, Int.toNat_of_nonneg hx0, Int.toNat_of_nonneg hy0]
          have hlt : y.toNat * w + x.toNat < R.length * w := by
            have : (y.toNat + 1) * w ≤ R.length * w := Nat.mul_le_mul_right w (by omega)
            rw [Nat.add_mul] at this; omega
          have hbt : bt (mk R.flatten) (y * (w : Int) + x) = (b.toNat : Int) := by
            rw [hidx]
            exact bt_get _ _ b (by rw [mk_data, flat_get R w h.row _ _ (by omega) (by omega)]; exact hb)
          have hc : cellAt R w x y = (b.toNat : Int) := by unfold cellAt; rw [if_pos ⟨hx0, by omega, hy0, by omega⟩, hd]
          have hne : ¬ (cellAt R w x y = -1) := by rw [hc]; omega
          rw [if_neg hne, hc, if_pos hx0]
          simp only [Option.bind_some, hx1, decide_true, if_true, k1, if_pos hy0, hy1, kw]
          rw [if_pos (by omega), if_pos (by rw [hidx]; omega), hbt]
        · have hc : cellAt R w x y = -1 := by unfold cellAt; rw [if_neg (by omega)]
          rw [hc, if_pos hx0]
          simp only [Option.bind_some, hx1, decide_true, if_true, k1, if_pos hy0, hy1, decide_false]
          simp
      · have hc : cellAt R w x y = -1 := by unfold cellAt; rw [if_neg (by omega)]
        rw [hc, if_pos hx0]
        simp only [Option.bind_some, hx1, decide_true, if_true, k1, if_neg hy0]
        simp
    · have hc : cellAt R w x y = -1 := by unfold cellAt; rw [if_neg (by omega)]
      rw [hc, if_pos hx0]
      simp [hx1]
  · have hc : cellAt R w x y = -1 := by unfold cellAt; rw [if_neg (by omega)]
    rw [hc, if_neg hx0]
    simp
theorem spl_first (c : UInt8) (s : List UInt8) : ∃ l', s ++ [c] = (spl c s).headD [] ++ c :: l' ∧ c ∉ (spl c s).headD [] := by
  rcases spl_cases c s with h | ⟨x, l, rfl, hx⟩
  · exact ⟨[], by rw [spl_none c s h]; rfl, by rw [spl_none c s h]; exact h⟩
  · exact ⟨l ++ [c], by rw [spl_app c x hx l]; simp, by rw [spl_app c x hx l]; exact hx⟩
theorem boardOf (a : ByteArray) (ha : a.size ≤ 1000) : impl_boardOf.f a = some (mk (spl 47 a.data.toList).flatten, (((spl 47 a.data.toList).headD []).length : Int)) := by
  unfold impl_boardOf.f strings_Index.f strings_ReplaceAll.f
  obtain ⟨l', e, hn⟩ := spl_first 47 a.data.toList
  have e1 : (a ++ (⟨#[47]⟩ : ByteArray)).data.toList = a.data.toList ++ [47] := by simp
  have e2 : (a ++ (⟨#[47]⟩ : ByteArray)).size = a.size + 1 := by simp [ByteArray.size_append]; rfl
  rw [if_pos (by omega), if_pos (by rw [e2]; omega), Option.bind_some, if_pos ⟨by omega, by decide, by rw [show (⟨#[]⟩ : ByteArray).size = 0 from rfl, Nat.mul_zero]; omega⟩, Option.bind_some, e1, e]
  rw [index_hit1 47 _ _ hn]
  have e3 := replaceAll_spl 47 a.data.toList
  simp only [mk]
  rw [← e3]
end Go.Proofs.YtdgfnoekgeipiaaGreatDoor.Pl
namespace Go.Proofs.YtdgfnoekgeipiaaGreatDoor.Pl
open Go.RowKit Go.Proofs.YtdgfnoekgeipiaaGreatDoorW.PrintWords Go.Proofs.YtdgfnoekgeipiaaGreatDoorW.PrintLast Go.Proofs.YtdgfnoekgeipiaaGreatDoor.Q Go.Lib
def oth (kind : Int) : Int := if kind = 84 then 70 else 84
def wayL (R : List (List UInt8)) (w i : Nat) (kind p q : Int) : List S38 :=
  if cellAt R w ((i % w : Nat) + p) ((i / w : Nat) + q) = 46 then [⟨i, i + p + q * w⟩]
  else if cellAt R w ((i % w : Nat) + p) ((i / w : Nat) + q) = oth kind ∧ cellAt R w ((i % w : Nat) + 2 * p) ((i / w : Nat) + 2 * q) = 46 then [⟨i, i + 2 * p + 2 * q * w⟩] else []
def movesAt (R : List (List UInt8)) (w i : Nat) : List S38 :=
  if cellAt R w (i % w : Nat) (i / w : Nat) = 84 then wayL R w i 84 1 0 ++ wayL R w i 84 0 1
  else if cellAt R w (i % w : Nat) (i / w : Nat) = 70 then wayL R w i 70 (-1) 0 ++ wayL R w i 70 0 (-1) else []
theorem wayL_len (R : List (List UInt8)) (w i : Nat) (kind p q : Int) : (wayL R w i kind p q).length ≤ 1 := by
  unfold wayL; split <;> (try split) <;> simp
theorem movesAt_len (R : List (List UInt8)) (w i : Nat) : (movesAt R w i).length ≤ 2 := by
  unfold movesAt
  have a := wayL_len R w i 84 1 0
  have b := wayL_len R w i 84 0 1
  have c := wayL_len R w i 70 (-1) 0
  have d := wayL_len R w i 70 0 (-1)
  split
  · rw [List.length_append]; omega
  · split
    · rw [List.length_append]; omega
    · simp
theorem w64 {n : Int} (h : -100000 ≤ n ∧ n ≤ 100000) : wrap64 n = n := by unfold wrap64; omega
theorem moves_way {R : List (List UInt8)} {w : Nat} (h : Bd R w) (acc : List S38) (hacc : acc.length ≤ 1000) (i : Nat) (hi : i < R.length * w) (kind : Int) (hk : kind = 84 ∨ kind = 70) (ways : List S75) (hl : ways.length = 2) (j : Nat) (hj2 : j < 2) (p q : Int) (hj : ways[j]? = some ⟨p, q⟩) (hp : -1 ≤ p ∧ p ≤ 1) (hq : -1 ≤ q ∧ q ≤ 1) (N : Int) (k : Nat) :
    impl_board_moves.l1 (k + 1) acc i kind (i % w : Nat) (i / w : Nat) N i ways 2 j (mk R.flatten) w = impl_board_moves.l1 k (acc ++ wayL R w i kind p q) i kind (i % w : Nat) (i / w : Nat) N i ways 2 ((j + 1 : Nat) : Int) (mk R.flatten) w := by
  have n1 := h.n1
  have n5 := h.n5
  have w1 := h.w1
  have w5 := h.w5
  have hN : R.length * w ≤ 25 := Nat.mul_le_mul n5 w5
  have hx : i % w < w := Nat.mod_lt _ (by omega)
  have hy : i / w ≤ i := Nat.div_le_self _ _
  have hrd : rd_T75 ways (j : Int) = ⟨p, q⟩ := by simp [rd_T75, List.getD_eq_getElem?_getD, hj]
  obtain ⟨x, hX⟩ : ∃ x, i % w = x := ⟨_, rfl⟩
  obtain ⟨y, hY⟩ : ∃ y, i / w = y := ⟨_, rfl⟩
  unfold wayL
  rw [hX, hY]
  rw [hX] at hx
  rw [hY] at hy
  have qw : -5 ≤ q * (w : Int) ∧ q * (w : Int) ≤ 5 := by
    have : q = -1 ∨ q = 0 ∨ q = 1 := by omega
    rcases this with rfl | rfl | rfl <;> omega
  have qw2 : -10 ≤ 2 * q * (w : Int) ∧ 2 * q * (w : Int) ≤ 10 := by
    have : q = -1 ∨ q = 0 ∨ q = 1 := by omega
    rcases this with rfl | rfl | rfl <;> omega
  have s1 := sign h (x + p) (y + q) (by omega) (by omega)
  have s2 := sign h (x + 2 * p) (y + 2 * q) (by omega) (by omega)
  have ho : impl_other.f kind = some (oth kind) := by
    rcases hk with rfl | rfl <;> rfl
  have hov : oth kind = 70 ∨ oth kind = 84 := by rcases hk with rfl | rfl <;> simp [oth]
  rw [impl_board_moves.l1, if_pos (by omega), if_pos (by omega), if_pos (by omega), hrd]
  simp only [w64 (n := (x : Int) + p) (by omega), w64 (n := (y : Int) + q) (by omega), w64 (n := 2 * p) (by omega), w64 (n := 2 * q) (by omega), w64 (n := (x : Int) + 2 * p) (by omega), w64 (n := (y : Int) + 2 * q) (by omega), w64 (n := q * (w : Int)) (by omega), w64 (n := 2 * q * (w : Int)) (by omega), w64 (n := (i : Int) + p) (by omega), w64 (n := (i : Int) + 2 * p) (by omega), w64 (n := (i : Int) + p + q * (w : Int)) (by omega), w64 (n := (i : Int) + 2 * p + 2 * q * (w : Int)) (by omega), w64 (n := (j : Int) + 1) (by omega), s1, s2, ho, Option.bind_some]
  rcases cellAt_vals h (x + p) (y + q) with ⟨c1, _⟩ | ⟨_, c1⟩
  · have o1 : ¬ (-1 = oth kind) := by omega
    have o2 : ¬ ((0 : Int) = oth kind) := by omega
    simp [c1, o1, o2]
  · have m1 : ¬ cellAt R w (x + p) (y + q) = -1 := by omega
    simp only [if_neg m1]
    by_cases e46 : cellAt R w (x + p) (y + q) = 46
    · simp only [if_pos e46]
      rw [if_pos (show acc.length < 8796093022208 by omega)]
      rfl
    · simp only [if_neg e46]
      by_cases eo : cellAt R w (x + p) (y + q) = oth kind
      · simp only [if_pos eo, eo, true_and]
        rcases cellAt_vals h (x + 2 * p) (y + 2 * q) with ⟨c2, _⟩ | ⟨_, c2⟩
        · simp [c2]
        · have m2 : ¬ cellAt R w (x + 2 * p) (y + 2 * q) = -1 := by omega
          simp only [if_neg m2]
          by_cases f46 : cellAt R w (x + 2 * p) (y + 2 * q) = 46
          · simp only [if_pos f46]
            rw [if_pos (show acc.length < 8796093022208 by omega)]
            rfl
          · simp only [if_neg f46]
            simp
      · simp [eo]
theorem cells_bt {R : List (List UInt8)} {w : Nat} (h : Bd R w) (i : Nat) (hi : i < R.length * w) : bt (mk R.flatten) (i : Int) = cellAt R w (i % w : Nat) (i / w : Nat) := by
  have w1 := h.w1
  have hx : i % w < w := Nat.mod_lt _ (by omega)
  have hy : i / w < R.length := Nat.div_lt_of_lt_mul (by rw [Nat.mul_comm]; exact hi)
  obtain ⟨b, hb, hs, hd, hr⟩ := cell_get h hy hx
  have e : i / w * w + i % w = i := by rw [Nat.mul_comm]; exact Nat.div_add_mod i w
  have hf : (mk R.flatten).data.toList[i]? = some b := by
    rw [mk_data]
    have := flat_get R w h.row (i / w) (i % w) hy hx
    rw [e] at this
    rw [this, hb]
  rw [bt_get _ i b hf]
  unfold cellAt
  rw [if_pos ⟨Int.natCast_nonneg _, Int.ofNat_lt.2 hx, Int.natCast_nonneg _, Int.ofNat_lt.2 hy⟩, Int.toNat_natCast, Int.toNat_natCast, hd]
def srt (l : List S38) : List S38 := ofMv (srtMv (toMv l))
theorem moves_ev {R : List (List UInt8)} {w : Nat} (h : Bd R w) : ∀ (m i : Nat) (acc : List S38), i + m = R.length * w → acc.length ≤ 2 * i →
    Ev (fun k => impl_board_moves.l0 k acc ((R.length * w : Nat) : Int) (i : Int) (mk R.flatten) w) (srt (acc ++ (List.range' i m).flatMap (movesAt R w))) := by
  have hN : R.length * w ≤ 25 := Nat.mul_le_mul h.n5 h.w5
  have w1 := h.w1
  have w5 := h.w5
  have hfl := flat_len R w h.row
  intro m
  induction m with
  | zero =>
    intro i acc him hacc
    refine ⟨1, fun k hk => ?_⟩
    obtain ⟨k, rfl⟩ : ∃ j, k = j + 1 := ⟨k - 1, by omega⟩
    show impl_board_moves.l0 (k + 1) acc ((R.length * w : Nat) : Int) (i : Int) (mk R.flatten) w = _
    rw [impl_board_moves.l0, if_neg (by omega)]
    unfold slices_SortFunc_Move.f
    rw [if_pos (by omega)]
    simp [srt]
  | succ m ih =>
    intro i acc him hacc
    have hi : i < R.length * w := by omega
    have hbt := cells_bt h i hi
    have hxw : ((i : Int).tmod (w : Int)) = ((i % w : Nat) : Int) := rfl
    have hyw : ((i : Int).tdiv (w : Int)) = ((i / w : Nat) : Int) := rfl
    have hyi : i / w ≤ i := Nat.div_le_self _ _
    have hy64 : wrap64 ((i / w : Nat) : Int) = ((i / w : Nat) : Int) := by
      generalize i / w = y at hyi ⊢
      exact w64 (by omega)
    have hr : List.range' i (m + 1) = i :: List.range' (i + 1) m := rfl
    have nxt := ih (i + 1) (acc ++ movesAt R w i) (by omega) (by have := movesAt_len R w i; rw [List.length_append]; omega)
    rw [hr, List.flatMap_cons, ← List.append_assoc]
    have st : ∀ k, impl_board_moves.l0 (k + 1) acc ((R.length * w : Nat) : Int) (i : Int) (mk R.flatten) w =
        (impl_stepOf.f (cellAt R w (i % w : Nat) (i / w : Nat))).bind fun t => if t = 0 then impl_board_moves.l0 k acc ((R.length * w : Nat) : Int) ((i + 1 : Nat) : Int) (mk R.flatten) w else
          impl_board_moves.l1 k acc i (cellAt R w (i % w : Nat) (i / w : Nat)) (i % w : Nat) (i / w : Nat) ((R.length * w : Nat) : Int) i [⟨t, 0⟩, ⟨0, t⟩] 2 0 (mk R.flatten) w := by
      intro k
      rw [impl_board_moves.l0, if_pos (by omega), if_pos (by omega), if_pos (by rw [mk_size, hfl]; omega), if_neg (by omega), hbt]
      simp only [hxw, hyw, hy64, w64 (n := (i : Int) + 1) (by omega), Option.bind_some]
      rfl
    have two : ∀ (d kind : Int), (d = 1 ∧ kind = 84 ∨ d = -1 ∧ kind = 70) → Ev (fun k => impl_board_moves.l1 k acc i kind (i % w : Nat) (i / w : Nat) ((R.length * w : Nat) : Int) i [⟨d, 0⟩, ⟨0, d⟩] 2 0 (mk R.flatten) w) (srt ((acc ++ (wayL R w i kind d 0 ++ wayL R w i kind 0 d)) ++ (List.range' (i + 1) m).flatMap (movesAt R w))) := by
      intro d kind hdk
      have hk : kind = 84 ∨ kind = 70 := by omega
      have e1 := fun k => moves_way h acc (by omega) i hi kind hk [⟨d, 0⟩, ⟨0, d⟩] rfl 0 (by omega) d 0 rfl (by omega) (by omega) ((R.length * w : Nat) : Int) k
      have l1 := wayL_len R w i kind d 0
      have l2 := wayL_len R w i kind 0 d
      have e2 := fun k => moves_way h (acc ++ wayL R w i kind d 0) (by rw [List.length_append]; omega) i hi kind hk [⟨d, 0⟩, ⟨0, d⟩] rfl 1 (by omega) 0 d rfl (by omega) (by omega) ((R.length * w : Nat) : Int) k
      have n2 := ih (i + 1) (acc ++ (wayL R w i kind d 0 ++ wayL R w i kind 0 d)) (by omega) (by rw [List.length_append, List.length_append]; omega)
      refine Ev.step (fun k => e1 k) ?_
      refine Ev.step (fun k => e2 k) ?_
      refine Ev.step (f := fun k => impl_board_moves.l0 k (acc ++ (wayL R w i kind d 0 ++ wayL R w i kind 0 d)) ((R.length * w : Nat) : Int) ((i + 1 : Nat) : Int) (mk R.flatten) w) (fun k => ?_) n2
      rw [impl_board_moves.l1, if_neg (by omega), w64 (n := (i : Int) + 1) (by omega), List.append_assoc]
      rfl
    refine Ev.step (fun k => st k) ?_
    rcases cellAt_vals h (i % w : Nat) (i / w : Nat) with ⟨_, c⟩ | ⟨_, c | c | c⟩
    · exact absurd ⟨Int.natCast_nonneg _, Int.ofNat_lt.2 (Nat.mod_lt i (by omega)), Int.natCast_nonneg _, Int.ofNat_lt.2 (Nat.div_lt_of_lt_mul (by rw [Nat.mul_comm]; exact hi))⟩ c
    · have e : movesAt R w i = wayL R w i 84 1 0 ++ wayL R w i 84 0 1 := by unfold movesAt; rw [if_pos c]
      rw [e, c]
      exact two 1 84 (.inl ⟨rfl, rfl⟩)
    · have e : movesAt R w i = wayL R w i 70 (-1) 0 ++ wayL R w i 70 0 (-1) := by unfold movesAt; rw [if_neg (by omega), if_pos c]
      rw [e, c]
      exact two (-1) 70 (.inr ⟨rfl, rfl⟩)
    · have e : movesAt R w i = [] := by unfold movesAt; rw [if_neg (by omega), if_neg (by omega)]
      rw [c]
      rw [e, List.append_nil] at nxt
      rw [e, List.append_nil]
      exact nxt
theorem moves {R : List (List UInt8)} {w : Nat} (h : Bd R w) : Ev (fun k => impl_board_moves.f k (mk R.flatten) w) (srt ((List.range (R.length * w)).flatMap (movesAt R w))) := by
  have := moves_ev h (R.length * w) 0 [] (by omega) (by simp)
  unfold impl_board_moves.f
  rw [mk_size, flat_len R w h.row, List.range_eq_range']
  simpa using this
end Go.Proofs.YtdgfnoekgeipiaaGreatDoor.Pl
namespace Go.Proofs.YtdgfnoekgeipiaaGreatDoor.Pl
open Go.RowKit Go.Proofs.YtdgfnoekgeipiaaGreatDoorW.PrintWords Go.Proofs.YtdgfnoekgeipiaaGreatDoorW.PrintLast Go.Proofs.YtdgfnoekgeipiaaGreatDoor.Q Go.Lib
def isMv (m0 m1 : Int) (x : S38) : Bool := m0 == x.f0 && m1 == x.f1
theorem index_ev (l : List S38) (hl : l.length ≤ 100000) (m0 m1 : Int) : ∀ (rest : List S38) (i : Nat), l.drop i = rest →
    ∃ v, Ev (fun k => impl_Move_47.l0 k l (l.length : Int) (i : Int) m0 m1) v ∧ decide (v ≥ 0) = rest.any (isMv m0 m1) := by
  intro rest
  induction rest with
  | nil =>
    intro i hd
    have hi : l.length ≤ i := List.drop_eq_nil_iff.1 hd
    refine ⟨-1, ⟨1, fun k hk => ?_⟩, by simp⟩
    obtain ⟨k, rfl⟩ : ∃ j, k = j + 1 := ⟨k - 1, by omega⟩
    show impl_Move_47.l0 (k + 1) l (l.length : Int) (i : Int) m0 m1 = _
    rw [impl_Move_47.l0, if_neg (by omega)]
  | cons x rest ih =>
    intro i hd
    have hr : l[i]? = some x := by
      have : (l.drop i)[0]? = some x := by rw [hd]; rfl
      rwa [List.getElem?_drop] at this
    have hi : i < l.length := (List.getElem?_eq_some_iff.1 hr).1
    have hd' : l.drop (i + 1) = rest := by rw [← List.drop_drop, hd]; rfl
    have hrd : rd_T38 l (i : Int) = x := by simp [rd_T38, List.getD_eq_getElem?_getD, hr]
    by_cases hx : isMv m0 m1 x = true
    · refine ⟨(i : Int), ⟨1, fun k hk => ?_⟩, by simp [hx]⟩
      obtain ⟨k, rfl⟩ : ∃ j, k = j + 1 := ⟨k - 1, by omega⟩
      show impl_Move_47.l0 (k + 1) l (l.length : Int) (i : Int) m0 m1 = _
      rw [impl_Move_47.l0, if_pos (by omega), if_pos (by omega), if_pos (by omega), hrd, if_pos (show (m0 == x.f0 && m1 == x.f1) = true from hx)]
    · obtain ⟨v, hv, hd2⟩ := ih (i + 1) hd'
      refine ⟨v, Ev.step (fun k => ?_) hv, by rw [hd2]; simp [hx]⟩
      rw [impl_Move_47.l0, if_pos (by omega), if_pos (by omega), if_pos (by omega), hrd, if_neg (show ¬ (m0 == x.f0 && m1 == x.f1) = true from hx), w64 (n := (i : Int) + 1) (by omega)]
      rfl
theorem contains (l : List S38) (hl : l.length ≤ 100000 - 1) (m0 m1 : Int) : Ev (fun k => impl_Move_34.f k l m0 m1) (l.any (isMv m0 m1)) := by
  obtain ⟨v, hv, hd⟩ := index_ev l (by omega) m0 m1 l 0 (by simp)
  unfold impl_Move_34.f impl_Move_47.f
  refine Ev.bind hv ?_
  rw [hd]
  exact Ev.now _
theorem srt_any (l : List S38) (p : S38 → Bool) : (srt l).any p = l.any p := by
  unfold srt ofMv srtMv
  rw [List.any_map, Bool.eq_iff_iff, List.any_eq_true, List.any_eq_true]
  constructor
  · rintro ⟨x, hx, hp⟩
    have := (List.mergeSort_perm _ _).mem_iff.1 hx
    obtain ⟨y, hy, rfl⟩ := List.mem_map.1 this
    exact ⟨y, hy, hp⟩
  · rintro ⟨y, hy, hp⟩
    exact ⟨(y.f0, y.f1), (List.mergeSort_perm _ _).mem_iff.2 (List.mem_map.2 ⟨y, hy, rfl⟩), hp⟩
theorem srt_length (l : List S38) : (srt l).length = l.length := by simp [srt, ofMv, srtMv_length, toMv]
def allMoves (R : List (List UInt8)) (w : Nat) : List S38 := (List.range (R.length * w)).flatMap (movesAt R w)
theorem flatMap_le {α β : Type} (f : α → List β) (n : Nat) (h : ∀ x, (f x).length ≤ n) : ∀ l : List α, (l.flatMap f).length ≤ n * l.length
  | [] => by simp
  | a :: l => by
    have := flatMap_le f n h l
    have := h a
    rw [List.flatMap_cons, List.length_append, List.length_cons, Nat.mul_add]; omega
theorem canI {R : List (List UInt8)} {w : Nat} (h : Bd R w) (m : S38) : Ev (fun k => playCan k w (mk R.flatten) m) ((allMoves R w).any (isMv m.f0 m.f1)) := by
  have hN : R.length * w ≤ 25 := Nat.mul_le_mul h.n5 h.w5
  unfold playCan
  refine Ev.bind (moves h) ?_
  have hl : (allMoves R w).length ≤ 50 := by
    have := flatMap_le (movesAt R w) 2 (movesAt_len R w) (List.range (R.length * w))
    rw [List.length_range] at this
    unfold allMoves; omega
  have := contains (srt (allMoves R w)) (by rw [srt_length]; omega) m.f0 m.f1
  rw [srt_any] at this
  exact this
end Go.Proofs.YtdgfnoekgeipiaaGreatDoor.Pl
namespace Go.Proofs.YtdgfnoekgeipiaaGreatDoor.Pl
open Go.RowKit Go.Proofs.YtdgfnoekgeipiaaGreatDoorW.PrintWords Go.Proofs.YtdgfnoekgeipiaaGreatDoorW.PrintLast Go.Proofs.YtdgfnoekgeipiaaGreatDoor.Q Go.Lib
def goS (R : List (List UInt8)) (w : Nat) (x y tt ot m1 p q far : Int) (rest : Bool) : Bool :=
  if cellAt R w (x + far * p) (y + far * q) = -1 then rest
  else if m1 = (y + far * q) * w + x + far * p then (if tt = 46 then (if far = 1 then true else (if cellAt R w (x + p) (y + q) = -1 then 32 else cellAt R w (x + p) (y + q)) == ot) else false)
  else rest
def wayS (R : List (List UInt8)) (w : Nat) (x y tt ot m1 step : Int) : Bool :=
  goS R w x y tt ot m1 step 0 1 (goS R w x y tt ot m1 step 0 2 (goS R w x y tt ot m1 0 step 1 (goS R w x y tt ot m1 0 step 2 false)))
def canS (R : List (List UInt8)) (w : Nat) (m0 m1 : Int) : Bool :=
  if 0 ≤ m0 ∧ m0 < R.length * w ∧ 0 ≤ m1 ∧ m1 < R.length * w then
    (if cellAt R w (m0 % w) (m0 / w) = 84 then wayS R w (m0 % w) (m0 / w) (cellAt R w (m1 % w) (m1 / w)) 70 m1 1
     else if cellAt R w (m0 % w) (m0 / w) = 70 then wayS R w (m0 % w) (m0 / w) (cellAt R w (m1 % w) (m1 / w)) 84 m1 (-1) else false)
  else false
theorem boCan_l1 {R : List (List UInt8)} {w : Nat} (h : Bd R w) (x y tt step ot side p q far m0 m1 : Int) (hx : 0 ≤ x ∧ x ≤ 5) (hy : 0 ≤ y ∧ y ≤ 5) (hp : -1 ≤ p ∧ p ≤ 1) (hq : -1 ≤ q ∧ q ≤ 1) (hf : far = 1 ∨ far = 2) (v : Bool)
    (hn : Ev (fun k => spec_boCan.l1 k (R.map mk) w x y tt step ot side p q (far + 1) m0 m1) v) :
    Ev (fun k => spec_boCan.l1 k (R.map mk) w x y tt step ot side p q far m0 m1) (goS R w x y tt ot m1 p q far v) := by
  have w1 := h.w1
  have w5 := h.w5
  have b1 := boAt h (x + far * p) (y + far * q)
  have b2 := boAt h (x + p) (y + q)
  obtain ⟨fp, hfp⟩ : ∃ fp, far * p = fp := ⟨_, rfl⟩
  obtain ⟨fq, hfq⟩ : ∃ fq, far * q = fq := ⟨_, rfl⟩
  have bp : -2 ≤ fp ∧ fp ≤ 2 := by rcases hf with rfl | rfl <;> omega
  have bq : -2 ≤ fq ∧ fq ≤ 2 := by rcases hf with rfl | rfl <;> omega
  have ym : -50 ≤ (y + fq) * (w : Int) ∧ (y + fq) * (w : Int) ≤ 50 := by
    have hw : (w : Int) = 1 ∨ (w : Int) = 2 ∨ (w : Int) = 3 ∨ (w : Int) = 4 ∨ (w : Int) = 5 := by omega
    rcases hw with e | e | e | e | e <;> rw [e] <;> omega
  unfold goS
  rw [hfp, hfq] at b1
  rw [hfp, hfq]
  have st : ∀ k, spec_boCan.l1 (k + 1) (R.map mk) w x y tt step ot side p q far m0 m1 = (if (if cellAt R w (x + fp) (y + fq) = -1 then 32 else cellAt R w (x + fp) (y + fq)) = 32 then spec_boCan.l1 k (R.map mk) w x y tt step ot side p q (far + 1) m0 m1 else if m1 = (y + fq) * w + x + fp then (if tt = 46 then (if far = 1 then some true else some ((if cellAt R w (x + p) (y + q) = -1 then 32 else cellAt R w (x + p) (y + q)) == ot)) else some false) else spec_boCan.l1 k (R.map mk) w x y tt step ot side p q (far + 1) m0 m1) := by
    intro k
    rw [spec_boCan.l1, if_pos (by omega)]
    simp only [hfp, hfq, w64 (n := fp) (by omega), w64 (n := fq) (by omega), w64 (n := x + fp) (by omega), w64 (n := y + fq) (by omega), w64 (n := (y + fq) * (w : Int)) (by omega), w64 (n := (y + fq) * (w : Int) + x) (by omega), w64 (n := (y + fq) * (w : Int) + x + fp) (by omega), w64 (n := x + p) (by omega), w64 (n := y + q) (by omega), w64 (n := far + 1) (by omega), b1, b2, Option.bind_some]
  rcases cellAt_vals h (x + fp) (y + fq) with ⟨c, _⟩ | ⟨_, c⟩
  · rw [if_pos c]
    exact Ev.step (fun k => by rw [st k, if_pos c, if_pos rfl]) hn
  · have c1 : ¬ cellAt R w (x + fp) (y + fq) = -1 := by omega
    have c2 : ¬ cellAt R w (x + fp) (y + fq) = 32 := by omega
    rw [if_neg c1]
    by_cases hm : m1 = (y + fq) * w + x + fp
    · rw [if_pos hm]
      refine Ev.step (f := fun _ => some _) (fun k => ?_) (Ev.now _)
      rw [st k, if_neg c1, if_neg c2, if_pos hm]
      split
      · split <;> rfl
      · rfl
    · rw [if_neg hm]
      exact Ev.step (fun k => by rw [st k, if_neg c1, if_neg c2, if_neg hm]) hn
theorem boCan_way {R : List (List UInt8)} {w : Nat} (h : Bd R w) (x y tt step ot m0 m1 : Int) (hx : 0 ≤ x ∧ x ≤ 5) (hy : 0 ≤ y ∧ y ≤ 5) (hs : step = 1 ∨ step = -1) :
    Ev (fun k => spec_boCan.j1 k (R.map mk) w x y tt step ot m0 m1) (wayS R w x y tt ot m1 step) := by
  have e3 : ∀ side p q k, spec_boCan.l1 (k + 1) (R.map mk) w x y tt step ot side p q (2 + 1) m0 m1 = spec_boCan.l0 k (R.map mk) w x y tt step ot (wrap64 (side + 1)) m0 m1 := by
    intro side p q k
    rw [spec_boCan.l1, if_neg (by omega)]
  unfold wayS
  refine Ev.step (f := fun k => spec_boCan.l0 k (R.map mk) w x y tt step ot 0 m0 m1) (fun k => rfl) ?_
  refine Ev.step (f := fun k => spec_boCan.l1 k (R.map mk) w x y tt step ot 0 step 0 1 m0 m1) (fun k => ?_) ?_
  · rw [spec_boCan.l0, if_pos (by omega), show wrap64 (step * wrap64 (1 - 0)) = step by (rcases hs with rfl | rfl <;> (unfold wrap64; omega)), show wrap64 (step * 0) = 0 by (rcases hs with rfl | rfl <;> (unfold wrap64; omega))]
  refine boCan_l1 h x y tt step ot 0 step 0 1 m0 m1 hx hy (by omega) (by omega) (.inl rfl) _ ?_
  refine boCan_l1 h x y tt step ot 0 step 0 2 m0 m1 hx hy (by omega) (by omega) (.inr rfl) _ ?_
  refine Ev.step (fun k => e3 0 step 0 k) ?_
  refine Ev.step (f := fun k => spec_boCan.l1 k (R.map mk) w x y tt step ot 1 0 step 1 m0 m1) (fun k => ?_) ?_
  · rw [show wrap64 (0 + 1) = 1 by (unfold wrap64; omega), spec_boCan.l0, if_pos (by omega), show wrap64 (step * wrap64 (1 - 1)) = 0 by (rcases hs with rfl | rfl <;> (unfold wrap64; omega)), show wrap64 (step * 1) = step by (rcases hs with rfl | rfl <;> (unfold wrap64; omega))]
  refine boCan_l1 h x y tt step ot 1 0 step 1 m0 m1 hx hy (by omega) (by omega) (.inl rfl) _ ?_
  refine boCan_l1 h x y tt step ot 1 0 step 2 m0 m1 hx hy (by omega) (by omega) (.inr rfl) _ ?_
  refine Ev.step (fun k => e3 1 0 step k) ?_
  refine Ev.step (f := fun _ => some false) (fun k => ?_) (Ev.now _)
  rw [spec_boCan.l0, w64 (n := 1 + 1) (by omega), if_neg (by omega)]
end Go.Proofs.YtdgfnoekgeipiaaGreatDoor.Pl
namespace Go.Proofs.YtdgfnoekgeipiaaGreatDoor.Pl
open Go.RowKit Go.Proofs.YtdgfnoekgeipiaaGreatDoorW.PrintWords Go.Proofs.YtdgfnoekgeipiaaGreatDoorW.PrintLast Go.Proofs.YtdgfnoekgeipiaaGreatDoor.Q Go.Lib
theorem boCan {R : List (List UInt8)} {w : Nat} (h : Bd R w) (m0 m1 : Int) : Ev (fun k => spec_boCan.f k (R.map mk) m0 m1) (canS R w m0 m1) := by
  have n1 := h.n1
  have n5 := h.n5
  have w1 := h.w1
  have w5 := h.w5
  have hN : R.length * w ≤ 25 := Nat.mul_le_mul n5 w5
  obtain ⟨h0, R', hR⟩ : ∃ h0 R', R = h0 :: R' := by
    cases R with
    | nil => simp at n1
    | cons a b => exact ⟨a, b, rfl⟩
  have hrd0 : rdOf ByteArray.empty (R.map mk) 0 = mk h0 := rdOf_mk R 0 h0 (by rw [hR]; rfl)
  have hw : h0.length = w := h.row h0 (by rw [hR]; simp)
  obtain ⟨N, hNN⟩ : ∃ N : Int, (R.length : Int) * (w : Int) = N := ⟨_, rfl⟩
  have hN2 : 1 ≤ N ∧ N ≤ 25 := by
    have : ((R.length * w : Nat) : Int) = N := by rw [Int.natCast_mul]; exact hNN
    have h1 : 1 ≤ R.length * w := Nat.mul_le_mul n1 w1
    omega
  unfold spec_boCan.f spec_l1In.f
  simp only [List.length_map, hrd0, mk_size, hw]
  rw [Int.mul_comm (w : Int), hNN, w64 (n := N) (by omega), w64 (n := N - 1) (by omega)]
  simp only [if_pos (show (0 : Int) < (R.length : Int) by omega)]
  unfold canS
  rw [hNN]
  have fal : ∀ w', Ev (fun k => spec_boCan.j0 k (R.map mk) w' true m0 m1) false := fun w' => Ev.step (f := fun _ => some false) (fun k => by rw [spec_boCan.j0, if_pos rfl]) (Ev.now _)
  by_cases a0 : m0 ≥ 0
  · by_cases a1 : m0 ≤ N - 1
    · by_cases b0 : m1 ≥ 0
      · by_cases b1 : m1 ≤ N - 1
        · rw [if_pos (show 0 ≤ m0 ∧ m0 < N ∧ 0 ≤ m1 ∧ m1 < N from ⟨a0, by omega, b0, by omega⟩)]
          simp only [if_pos a0, if_pos b0, a1, b1, decide_true, Option.bind_some, if_true, Bool.not_true]
          have t0 : m0.tmod (w : Int) = m0 % w := Int.tmod_eq_emod_of_nonneg a0
          have t1 : m1.tmod (w : Int) = m1 % w := Int.tmod_eq_emod_of_nonneg b0
          have d0 : m0.tdiv (w : Int) = m0 / w := Int.tdiv_eq_ediv_of_nonneg a0
          have d1 : m1.tdiv (w : Int) = m1 / w := Int.tdiv_eq_ediv_of_nonneg b0
          have q0 : 0 ≤ m0 % w ∧ m0 % w < w := ⟨Int.emod_nonneg _ (by omega), Int.emod_lt_of_pos _ (by omega)⟩
          have r0 : 0 ≤ m0 / w ∧ m0 / w < R.length := ⟨Int.ediv_nonneg a0 (by omega), Int.ediv_lt_of_lt_mul (by omega) (by rw [hNN]; omega)⟩
          have r1 : 0 ≤ m1 / w ∧ m1 / w < R.length := ⟨Int.ediv_nonneg b0 (by omega), Int.ediv_lt_of_lt_mul (by omega) (by rw [hNN]; omega)⟩
          have q1 : 0 ≤ m1 % w ∧ m1 % w < w := ⟨Int.emod_nonneg _ (by omega), Int.emod_lt_of_pos _ (by omega)⟩
          obtain ⟨x, hx⟩ : ∃ x, m0 % (w : Int) = x := ⟨_, rfl⟩
          obtain ⟨y, hy⟩ : ∃ y, m0 / (w : Int) = y := ⟨_, rfl⟩
          obtain ⟨X, hX⟩ : ∃ x, m1 % (w : Int) = x := ⟨_, rfl⟩
          obtain ⟨Y, hY⟩ : ∃ y, m1 / (w : Int) = y := ⟨_, rfl⟩
          rw [hx] at q0 t0
          rw [hy] at r0 d0
          rw [hX] at q1 t1
          rw [hY] at r1 d1
          rw [hx, hy, hX, hY]
          have c1 : ¬ cellAt R w X Y = -1 := by
            rcases cellAt_vals h X Y with ⟨_, c⟩ | ⟨_, c⟩
            · exact absurd ⟨q1.1, q1.2, r1.1, r1.2⟩ c
            · omega
          have c0 : ¬ cellAt R w x y = -1 := by
            rcases cellAt_vals h x y with ⟨_, c⟩ | ⟨_, c⟩
            · exact absurd ⟨q0.1, q0.2, r0.1, r0.2⟩ c
            · omega
          have st : ∀ k, spec_boCan.j0 (k + 1) (R.map mk) (w : Int) false m0 m1 = (if cellAt R w x y = 84 then spec_boCan.j1 k (R.map mk) w x y (cellAt R w X Y) 1 70 m0 m1 else (if cellAt R w x y = 70 then spec_boCan.j1 k (R.map mk) w x y (cellAt R w X Y) (-1) 84 m0 m1 else some false)) := by
            intro k
            rw [spec_boCan.j0, if_neg (by simp), if_neg (by omega), t0, t1, d0, d1, w64 (n := y) (by omega), w64 (n := Y) (by omega), boAt h X Y, boAt h x y]
            simp only [Option.bind_some, if_neg c0, if_neg c1]
          refine Ev.step (fun k => st k) ?_
          by_cases k84 : cellAt R w x y = 84
          · simp only [if_pos k84]
            exact boCan_way h x y _ 1 70 m0 m1 (by omega) (by omega) (.inl rfl)
          · by_cases k70 : cellAt R w x y = 70
            · simp only [if_neg k84, if_pos k70]
              exact boCan_way h x y _ (-1) 84 m0 m1 (by omega) (by omega) (.inr rfl)
            · simp only [if_neg k84, if_neg k70]
              exact Ev.now _
        · rw [if_neg (show ¬ (0 ≤ m0 ∧ m0 < N ∧ 0 ≤ m1 ∧ m1 < N) by omega)]
          simp only [if_pos a0, if_pos b0, a1, b1, decide_true, decide_false, Option.bind_some, if_true, Bool.not_false]
          exact fal _
      · rw [if_neg (show ¬ (0 ≤ m0 ∧ m0 < N ∧ 0 ≤ m1 ∧ m1 < N) by omega)]
        simp only [if_pos a0, if_neg b0, a1, decide_true, Option.bind_some, if_true, Bool.not_false]
        exact fal _
    · rw [if_neg (show ¬ (0 ≤ m0 ∧ m0 < N ∧ 0 ≤ m1 ∧ m1 < N) by omega)]
      simp only [if_pos a0, a1, decide_false, Option.bind_some]
      exact fal _
  · rw [if_neg (show ¬ (0 ≤ m0 ∧ m0 < N ∧ 0 ≤ m1 ∧ m1 < N) by omega)]
    simp only [if_neg a0, Option.bind_some]
    exact fal _
end Go.Proofs.YtdgfnoekgeipiaaGreatDoor.Pl
namespace Go.Proofs.YtdgfnoekgeipiaaGreatDoor.Pl
open Go.RowKit Go.Proofs.YtdgfnoekgeipiaaGreatDoorW.PrintWords Go.Proofs.YtdgfnoekgeipiaaGreatDoorW.PrintLast Go.Proofs.YtdgfnoekgeipiaaGreatDoor.Q Go.Lib
theorem wayL_f0 (R : List (List UInt8)) (w i : Nat) (kind p q : Int) : ∀ m ∈ wayL R w i kind p q, m.f0 = i := by
  unfold wayL
  intro m hm
  split at hm
  · simp at hm; rw [hm]
  · split at hm
    · simp at hm; rw [hm]
    · simp at hm
theorem movesAt_f0 (R : List (List UInt8)) (w i : Nat) : ∀ m ∈ movesAt R w i, m.f0 = i := by
  unfold movesAt
  intro m hm
  split at hm
  · rcases List.mem_append.1 hm with h | h
    · exact wayL_f0 _ _ _ _ _ _ m h
    · exact wayL_f0 _ _ _ _ _ _ m h
  · split at hm
    · rcases List.mem_append.1 hm with h | h
      · exact wayL_f0 _ _ _ _ _ _ m h
      · exact wayL_f0 _ _ _ _ _ _ m h
    · simp at hm
theorem all_any (R : List (List UInt8)) (w : Nat) (m0 m1 : Int) : (allMoves R w).any (isMv m0 m1) = if 0 ≤ m0 ∧ m0 < R.length * w then (movesAt R w m0.toNat).any (isMv m0 m1) else false := by
  have hc : ((R.length * w : Nat) : Int) = (R.length : Int) * w := Int.natCast_mul _ _
  rw [Bool.eq_iff_iff, List.any_eq_true]
  unfold allMoves
  constructor
  · rintro ⟨m, hm, he⟩
    obtain ⟨i, hi, hmi⟩ := List.mem_flatMap.1 hm
    have hf := movesAt_f0 R w i m hmi
    have e0 : m0 = m.f0 := by simp only [isMv, Bool.and_eq_true, beq_iff_eq] at he; exact he.1
    have hi' := List.mem_range.1 hi
    have hm0 : m0 = (i : Int) := by rw [e0, hf]
    rw [if_pos ⟨by omega, by omega⟩]
    have : m0.toNat = i := by omega
    rw [this, List.any_eq_true]
    exact ⟨m, hmi, he⟩
  · intro hh
    split at hh
    · rename_i hcond
      obtain ⟨m, hm, he⟩ := List.any_eq_true.1 hh
      exact ⟨m, List.mem_flatMap.2 ⟨m0.toNat, List.mem_range.2 (by omega), hm⟩, he⟩
    · exact absurd hh (by simp)
def isAt (X Y x y p q far : Int) : Bool := decide (X = x + far * p ∧ Y = y + far * q)
theorem idx_inj {w : Nat} {X Y a b : Int} (hX : 0 ≤ X ∧ X < w) (ha : 0 ≤ a ∧ a < w) (h : Y * w + X = b * w + a) : X = a ∧ Y = b := by
  have e1 : (Y * w + X) % w = X := by rw [Int.add_comm, Int.add_mul_emod_self_right]; exact Int.emod_eq_of_lt hX.1 hX.2
  have e2 : (b * w + a) % w = a := by rw [Int.add_comm, Int.add_mul_emod_self_right]; exact Int.emod_eq_of_lt ha.1 ha.2
  have ex : X = a := by rw [← e1, ← e2, h]
  subst ex
  have : Y * (w : Int) = b * w := by omega
  exact ⟨rfl, Int.eq_of_mul_eq_mul_right (by omega) this⟩
theorem cell_in {R : List (List UInt8)} {w : Nat} (h : Bd R w) {a b : Int} (hc : ¬ cellAt R w a b = -1) : 0 ≤ a ∧ a < w ∧ 0 ≤ b ∧ b < R.length := by
  rcases cellAt_vals h a b with ⟨c, _⟩ | ⟨c, _⟩
  · exact absurd c hc
  · exact c
theorem goS_at {R : List (List UInt8)} {w : Nat} (h : Bd R w) (X Y x y tt ot m1 p q far : Int) (rest : Bool) (hX : 0 ≤ X ∧ X < w) (hm : m1 = Y * w + X) :
    goS R w x y tt ot m1 p q far rest = if cellAt R w (x + far * p) (y + far * q) = -1 then rest else if isAt X Y x y p q far = true then (if tt = 46 then (if far = 1 then true else (if cellAt R w (x + p) (y + q) = -1 then 32 else cellAt R w (x + p) (y + q)) == ot) else false) else rest := by
  unfold goS
  by_cases hc : cellAt R w (x + far * p) (y + far * q) = -1
  · rw [if_pos hc, if_pos hc]
  · rw [if_neg hc, if_neg hc]
    have hin := cell_in h hc
    have iff : m1 = (y + far * q) * w + x + far * p ↔ isAt X Y x y p q far = true := by
      unfold isAt
      rw [decide_eq_true_eq, hm, Int.add_assoc]
      constructor
      · intro he; exact idx_inj hX ⟨hin.1, hin.2.1⟩ he
      · rintro ⟨rfl, rfl⟩; rfl
    by_cases he : isAt X Y x y p q far = true
    · rw [if_pos (iff.2 he), if_pos he]
    · rw [if_neg (fun z => he (iff.1 z)), if_neg he]
theorem wayI_at {R : List (List UInt8)} {w : Nat} (h : Bd R w) (i : Nat) (x y : Int) (hx : ((i % w : Nat) : Int) = x) (hy : ((i / w : Nat) : Int) = y) (hi : (i : Int) = y * w + x) (kind p q m1 : Int) (E1 E2 : Bool)
    (h1 : ¬ cellAt R w (x + p) (y + q) = -1 → (m1 = (y + q) * w + (x + p) ↔ E1 = true)) (h2 : ¬ cellAt R w (x + 2 * p) (y + 2 * q) = -1 → (m1 = (y + 2 * q) * w + (x + 2 * p) ↔ E2 = true)) :
    (wayL R w i kind p q).any (isMv i m1) = if cellAt R w (x + p) (y + q) = 46 then E1 else if cellAt R w (x + p) (y + q) = oth kind ∧ cellAt R w (x + 2 * p) (y + 2 * q) = 46 then E2 else false := by
  unfold wayL
  rw [hx, hy]
  by_cases c1 : cellAt R w (x + p) (y + q) = 46
  · rw [if_pos c1, if_pos c1]
    have e : (i : Int) + p + q * w = (y + q) * w + (x + p) := by rw [hi, Int.add_mul]; omega
    have := h1 (by omega)
    simp only [List.any_cons, List.any_nil, Bool.or_false, isMv, beq_self_eq_true, Bool.true_and, e]
    rw [Bool.eq_iff_iff, beq_iff_eq]; exact this
  · rw [if_neg c1, if_neg c1]
    by_cases c2 : cellAt R w (x + p) (y + q) = oth kind ∧ cellAt R w (x + 2 * p) (y + 2 * q) = 46
    · rw [if_pos c2, if_pos c2]
      have e : (i : Int) + 2 * p + 2 * q * w = (y + 2 * q) * w + (x + 2 * p) := by rw [hi, Int.add_mul]; omega
      have := h2 (by omega)
      simp only [List.any_cons, List.any_nil, Bool.or_false, isMv, beq_self_eq_true, Bool.true_and, e]
      rw [Bool.eq_iff_iff, beq_iff_eq]; exact this
    · rw [if_neg c2, if_neg c2]; rfl
theorem fin4 (c1 c2 c3 c4 tt ot : Int) (e1 e2 e3 e4 : Bool) (h1 : e1 = true → c1 = tt) (h2 : e2 = true → c2 = tt) (h3 : e3 = true → c3 = tt) (h4 : e4 = true → c4 = tt)
    (x12 : ¬ (e1 = true ∧ e2 = true)) (x13 : ¬ (e1 = true ∧ e3 = true)) (x14 : ¬ (e1 = true ∧ e4 = true)) (x23 : ¬ (e2 = true ∧ e3 = true)) (x24 : ¬ (e2 = true ∧ e4 = true)) (x34 : ¬ (e3 = true ∧ e4 = true))
    (ht : ¬ tt = -1) (ho : ot = 70 ∨ ot = 84) :
    ((if c1 = 46 then e1 else if c1 = ot ∧ c2 = 46 then e2 else false) || (if c3 = 46 then e3 else if c3 = ot ∧ c4 = 46 then e4 else false)) =
    (if c1 = -1 then (if c2 = -1 then (if c3 = -1 then (if c4 = -1 then false else if e4 = true then (if tt = 46 then (if c3 = -1 then 32 else c3) == ot else false) else false) else if e3 = true then (if tt = 46 then true else false) else (if c4 = -1 then false else if e4 = true then (if tt = 46 then (if c3 = -1 then 32 else c3) == ot else false) else false)) else if e2 = true then (if tt = 46 then (if c1 = -1 then 32 else c1) == ot else false) else (if c3 = -1 then (if c4 = -1 then false else if e4 = true then (if tt = 46 then (if c3 = -1 then 32 else c3) == ot else false) else false) else if e3 = true then (if tt = 46 then true else false) else (if c4 = -1 then false else if e4 = true then (if tt = 46 then (if c3 = -1 then 32 else c3) == ot else false) else false)))
     else if e1 = true then (if tt = 46 then true else false) else (if c2 = -1 then (if c3 = -1 then (if c4 = -1 then false else if e4 = true then (if tt = 46 then (if c3 = -1 then 32 else c3) == ot else false) else false) else if e3 = true then (if tt = 46 then true else false) else (if c4 = -1 then false else if e4 = true then (if tt = 46 then (if c3 = -1 then 32 else c3) == ot else false) else false)) else if e2 = true then (if tt = 46 then (if c1 = -1 then 32 else c1) == ot else false) else (if c3 = -1 then (if c4 = -1 then false else if e4 = true then (if tt = 46 then (if c3 = -1 then 32 else c3) == ot else false) else false) else if e3 = true then (if tt = 46 then true else false) else (if c4 = -1 then false else if e4 = true then (if tt = 46 then (if c3 = -1 then 32 else c3) == ot else false) else false)))) := by
  have g : ∀ c : Int, ((if c = -1 then 32 else c) == ot) = decide (c = ot) := by
    intro c
    by_cases hc : c = -1
    · subst hc; rcases ho with rfl | rfl <;> simp
    · rw [if_neg hc]; rfl
  simp only [g]
  have o46 : ¬ ot = 46 := by omega
  cases e1 <;> cases e2 <;> cases e3 <;> cases e4 <;> simp at x12 x13 x14 x23 x24 x34 h1 h2 h3 h4 ⊢
  all_goals first
    | done
    | (rw [Bool.eq_iff_iff]; simp only [Bool.and_eq_true, Bool.or_eq_true, Bool.not_eq_true', decide_eq_true_eq, decide_eq_false_iff_not, Bool.false_eq_true, iff_false, false_iff, or_false, false_or]; omega)
    | omega
    | (split <;> simp <;> omega)
    | trace_state
theorem ways_eq {R : List (List UInt8)} {w : Nat} (h : Bd R w) (i : Nat) (hi : i < R.length * w) (X Y : Int) (hX : 0 ≤ X ∧ X < w) (hY : 0 ≤ Y ∧ Y < R.length) (m1 : Int) (hm : m1 = Y * w + X) (s kind : Int) (hs : s = 1 ∧ kind = 84 ∨ s = -1 ∧ kind = 70) :
    ((wayL R w i kind s 0 ++ wayL R w i kind 0 s).any (isMv i m1)) = wayS R w (i % w : Nat) (i / w : Nat) (cellAt R w X Y) (oth kind) m1 s := by
  have e0 : (i : Int) = ((i / w : Nat) : Int) * w + ((i % w : Nat) : Int) := by
    have := Nat.div_add_mod i w
    rw [← Int.natCast_mul, ← Int.natCast_add, Nat.mul_comm, this]
  obtain ⟨x, hx⟩ : ∃ x : Int, ((i % w : Nat) : Int) = x := ⟨_, rfl⟩
  obtain ⟨y, hy⟩ : ∃ y : Int, ((i / w : Nat) : Int) = y := ⟨_, rfl⟩
  rw [hx, hy] at e0
  have hE : ∀ p q far : Int, ¬ cellAt R w (x + far * p) (y + far * q) = -1 → (m1 = (y + far * q) * w + (x + far * p) ↔ isAt X Y x y p q far = true) := by
    intro p q far hc
    have hin := cell_in h hc
    unfold isAt
    rw [decide_eq_true_eq, hm]
    constructor
    · intro he; exact idx_inj hX ⟨hin.1, hin.2.1⟩ he
    · rintro ⟨rfl, rfl⟩; rfl
  have hE1 : ∀ p q : Int, ¬ cellAt R w (x + p) (y + q) = -1 → (m1 = (y + q) * w + (x + p) ↔ isAt X Y x y p q 1 = true) := by
    intro p q
    have := hE p q 1
    simpa only [Int.one_mul] using this
  rw [List.any_append, wayI_at h i x y hx hy e0 kind s 0 m1 _ _ (hE1 s 0) (hE s 0 2), wayI_at h i x y hx hy e0 kind 0 s m1 _ _ (hE1 0 s) (hE 0 s 2), hx, hy]
  unfold wayS
  rw [goS_at h X Y _ _ _ _ _ _ _ _ _ hX hm, goS_at h X Y _ _ _ _ _ _ _ _ _ hX hm, goS_at h X Y _ _ _ _ _ _ _ _ _ hX hm, goS_at h X Y _ _ _ _ _ _ _ _ _ hX hm]
  simp only [Int.one_mul, Int.mul_zero, Int.add_zero]
  have ho : oth kind = 70 ∨ oth kind = 84 := by rcases hs with ⟨_, rfl⟩ | ⟨_, rfl⟩ <;> simp [oth]
  have hsv : s = 1 ∨ s = -1 := by omega
  have d1 : isAt X Y x y s 0 1 = decide (X = x + s ∧ Y = y) := by simp [isAt]
  have d2 : isAt X Y x y s 0 2 = decide (X = x + 2 * s ∧ Y = y) := by simp [isAt]
  have d3 : isAt X Y x y 0 s 1 = decide (X = x ∧ Y = y + s) := by simp [isAt]
  have d4 : isAt X Y x y 0 s 2 = decide (X = x ∧ Y = y + 2 * s) := by simp [isAt]
  rw [d1, d2, d3, d4]
  have vt : ¬ cellAt R w X Y = -1 := by
    rcases cellAt_vals h X Y with ⟨_, c⟩ | ⟨_, c⟩
    · exact absurd ⟨hX.1, hX.2, hY.1, hY.2⟩ c
    · omega
  simp only [show ((2 : Int) = 1) = False by simp, if_true, if_false]
  exact fin4 (cellAt R w (x + s) y) (cellAt R w (x + 2 * s) y) (cellAt R w x (y + s)) (cellAt R w x (y + 2 * s)) (cellAt R w X Y) (oth kind) _ _ _ _
    (fun z => by have := of_decide_eq_true z; rw [this.1, this.2]) (fun z => by have := of_decide_eq_true z; rw [this.1, this.2]) (fun z => by have := of_decide_eq_true z; rw [this.1, this.2]) (fun z => by have := of_decide_eq_true z; rw [this.1, this.2])
    (by simp only [decide_eq_true_eq]; omega) (by simp only [decide_eq_true_eq]; omega) (by simp only [decide_eq_true_eq]; omega) (by simp only [decide_eq_true_eq]; omega) (by simp only [decide_eq_true_eq]; omega) (by simp only [decide_eq_true_eq]; omega) vt ho
theorem ways_out {R : List (List UInt8)} {w : Nat} (h : Bd R w) (i : Nat) (hi : i < R.length * w) (m1 : Int) (hm : ¬ (0 ≤ m1 ∧ m1 < R.length * w)) (kind p q : Int) : (wayL R w i kind p q).any (isMv i m1) = false := by
  have e0 : (i : Int) = ((i / w : Nat) : Int) * w + ((i % w : Nat) : Int) := by
    have := Nat.div_add_mod i w
    rw [← Int.natCast_mul, ← Int.natCast_add, Nat.mul_comm, this]
  obtain ⟨x, hx⟩ : ∃ x : Int, ((i % w : Nat) : Int) = x := ⟨_, rfl⟩
  obtain ⟨y, hy⟩ : ∃ y : Int, ((i / w : Nat) : Int) = y := ⟨_, rfl⟩
  rw [hx, hy] at e0
  have out : ∀ a b : Int, ¬ cellAt R w a b = -1 → (m1 = b * w + a ↔ false = true) := by
    intro a b hc
    have hin := cell_in h hc
    constructor
    · intro he
      exfalso
      apply hm
      have b1 : (b + 1) * (w : Int) ≤ R.length * w := Int.mul_le_mul_of_nonneg_right (by omega) (by omega)
      have b0 : 0 ≤ b * (w : Int) := Int.mul_nonneg hin.2.2.1 (by omega)
      rw [Int.add_mul] at b1
      omega
    · intro z; cases z
  rw [wayI_at h i x y hx hy e0 kind p q m1 false false (out _ _) (out _ _)]
  simp
theorem can_eq {R : List (List UInt8)} {w : Nat} (h : Bd R w) (m0 m1 : Int) : (allMoves R w).any (isMv m0 m1) = canS R w m0 m1 := by
  have hc : ((R.length * w : Nat) : Int) = (R.length : Int) * w := Int.natCast_mul _ _
  have w1 := h.w1
  rw [all_any]
  unfold canS
  by_cases h0 : 0 ≤ m0 ∧ m0 < R.length * w
  · rw [if_pos h0]
    have hi : m0.toNat < R.length * w := by omega
    have hx : ((m0.toNat % w : Nat) : Int) = m0 % w := by rw [Int.natCast_emod, Int.toNat_of_nonneg h0.1]
    have hy : ((m0.toNat / w : Nat) : Int) = m0 / w := by rw [Int.natCast_ediv, Int.toNat_of_nonneg h0.1]
    have hm0 : ((m0.toNat : Nat) : Int) = m0 := Int.toNat_of_nonneg h0.1
    by_cases h1 : 0 ≤ m1 ∧ m1 < R.length * w
    · rw [if_pos ⟨h0.1, h0.2, h1.1, h1.2⟩]
      have hX : 0 ≤ m1 % w ∧ m1 % w < w := ⟨Int.emod_nonneg _ (by omega), Int.emod_lt_of_pos _ (by omega)⟩
      have hY : 0 ≤ m1 / w ∧ m1 / w < R.length := ⟨Int.ediv_nonneg h1.1 (by omega), Int.ediv_lt_of_lt_mul (by omega) h1.2⟩
      have hm1 : m1 = m1 / w * w + m1 % w := by rw [Int.mul_comm]; exact (Int.mul_ediv_add_emod m1 w).symm
      have A := ways_eq h m0.toNat hi (m1 % w) (m1 / w) hX hY m1 hm1 1 84 (.inl ⟨rfl, rfl⟩)
      have B := ways_eq h m0.toNat hi (m1 % w) (m1 / w) hX hY m1 hm1 (-1) 70 (.inr ⟨rfl, rfl⟩)
      rw [hx, hy, hm0] at A B
      unfold movesAt
      rw [hx, hy]
      by_cases k1 : cellAt R w (m0 % w) (m0 / w) = 84
      · rw [if_pos k1, if_pos k1]; exact A
      · rw [if_neg k1, if_neg k1]
        by_cases k2 : cellAt R w (m0 % w) (m0 / w) = 70
        · rw [if_pos k2, if_pos k2]; exact B
        · rw [if_neg k2, if_neg k2]; rfl
    · rw [if_neg (fun z => h1 ⟨z.2.2.1, z.2.2.2⟩)]
      have O := fun kind p q => ways_out h m0.toNat hi m1 h1 kind p q
      rw [hm0] at O
      unfold movesAt
      split
      · rw [List.any_append, O, O]; rfl
      · split
        · rw [List.any_append, O, O]; rfl
        · rfl
  · rw [if_neg h0, if_neg (fun z => h0 ⟨z.1, z.2.1⟩)]
end Go.Proofs.YtdgfnoekgeipiaaGreatDoor.Pl
namespace Go.Proofs.YtdgfnoekgeipiaaGreatDoor.Pl
open Go.RowKit Go.Proofs.YtdgfnoekgeipiaaGreatDoorW.PrintWords Go.Proofs.YtdgfnoekgeipiaaGreatDoorW.PrintLast Go.Proofs.YtdgfnoekgeipiaaGreatDoor.Q Go.Lib
theorem mk_append (a b : List UInt8) : mk a ++ mk b = mk (a ++ b) := eq_mk (by simp)
end Go.Proofs.YtdgfnoekgeipiaaGreatDoor.Pl
namespace Go.Proofs.YtdgfnoekgeipiaaGreatDoor.Pl
open Go.RowKit Go.Proofs.YtdgfnoekgeipiaaGreatDoorW.PrintWords Go.Proofs.YtdgfnoekgeipiaaGreatDoorW.PrintLast Go.Proofs.YtdgfnoekgeipiaaGreatDoor.Q Go.Lib
def putR (R : List (List UInt8)) (y x : Nat) (b : UInt8) : List (List UInt8) := R.set y ((R.getD y []).set x b)
@[simp] theorem putR_len (R : List (List UInt8)) (y x : Nat) (b : UInt8) : (putR R y x b).length = R.length := by simp [putR]
theorem putR_bd {R : List (List UInt8)} {w : Nat} (h : Bd R w) (y x : Nat) {b : UInt8} (hb : sg b = true) (hy : y < R.length) : Bd (putR R y x b) w := by
  have hm : R.getD y [] ∈ R := by simp [List.getD_eq_getElem?_getD, List.getElem?_eq_getElem hy]
  refine ⟨by rw [putR_len]; exact h.n1, by rw [putR_len]; exact h.n5, h.w1, h.w5, fun r hr => ?_, fun r hr c hc => ?_⟩
  · rcases List.mem_or_eq_of_mem_set hr with hr | rfl
    · exact h.row r hr
    · rw [List.length_set]; exact h.row _ hm
  · rcases List.mem_or_eq_of_mem_set hr with hr | rfl
    · exact h.sgn r hr c hc
    · rcases List.mem_or_eq_of_mem_set hc with hc | rfl
      · exact h.sgn _ hm c hc
      · exact hb
theorem putR_flat : ∀ (R : List (List UInt8)) (w y x : Nat) (b : UInt8), (∀ r ∈ R, r.length = w) → y < R.length → x < w → (putR R y x b).flatten = R.flatten.set (y * w + x) b
  | [], _, _, _, _, _, hy, _ => by simp at hy
  | r :: R, w, 0, x, b, h, _, hx => by
    have hr : r.length = w := h r (by simp)
    simp [putR, hr, hx]
  | r :: R, w, y + 1, x, b, h, hy, hx => by
    have hr : r.length = w := h r (by simp)
    have ih := putR_flat R w y x b (fun q hq => h q (List.mem_cons_of_mem _ hq)) (by simpa using hy) hx
    have e : (y + 1) * w + x = r.length + (y * w + x) := by rw [Nat.add_mul, hr]; omega
    have hn : ¬ r.length + (y * w + x) < r.length := by omega
    have e2 : putR (r :: R) (y + 1) x b = r :: putR R y x b := by simp [putR]
    rw [e2, List.flatten_cons, List.flatten_cons, ih, e, List.set_append, if_neg hn, Nat.add_sub_cancel_left]
def mvR (R : List (List UInt8)) (w i j : Nat) : List (List UInt8) := putR (putR R (i / w) (i % w) 46) (j / w) (j % w) ((R.getD (i / w) []).getD (i % w) 0)
theorem mvR_bd {R : List (List UInt8)} {w : Nat} (h : Bd R w) {i j : Nat} (hi : i < R.length * w) (hj : j < R.length * w) : Bd (mvR R w i j) w := by
  have w1 := h.w1
  have hy : i / w < R.length := Nat.div_lt_of_lt_mul (by rw [Nat.mul_comm]; exact hi)
  have hy' : j / w < R.length := Nat.div_lt_of_lt_mul (by rw [Nat.mul_comm]; exact hj)
  obtain ⟨b, _, hb, e, _⟩ := cell_get h hy (Nat.mod_lt i (by omega))
  exact putR_bd (putR_bd h _ _ rfl hy) _ _ (by rw [e]; exact hb) (by rw [putR_len]; exact hy')
theorem set_bytes (l : List UInt8) (i j : Nat) (c : UInt8) (hi : l[i]? = some c) : (madeL (l.map fun b => (b.toNat : Int)) i j).map (fun n => UInt8.ofNat n.toNat) = (l.set j c).set i 46 := by
  obtain ⟨hl, hc⟩ := List.getElem?_eq_some_iff.1 hi
  have hrd : rd (l.map fun b => (b.toNat : Int)) (i : Int) = (c.toNat : Int) := by
    simp [rd, List.getD_eq_getElem?_getD, hi]
  have hm : (l.map fun b => (b.toNat : Int)).map (fun n => UInt8.ofNat n.toNat) = l := by
    rw [List.map_map]
    exact (List.map_congr_left (fun r _ => by simp)).trans (List.map_id _)
  unfold madeL
  rw [hrd, Int.toNat_natCast, Int.toNat_natCast, List.map_set, List.map_set, hm]
  simp
theorem made {R : List (List UInt8)} {w : Nat} (h : Bd R w) {i j : Nat} (hi : i < R.length * w) (hj : j < R.length * w) (hne : i ≠ j) : impl_made.f (mk R.flatten) i j = some (mk (mvR R w i j).flatten) := by
  have hN : R.length * w ≤ 25 := Nat.mul_le_mul h.n5 h.w5
  have w1 := h.w1
  have hy : i / w < R.length := Nat.div_lt_of_lt_mul (by rw [Nat.mul_comm]; exact hi)
  have hy' : j / w < R.length := Nat.div_lt_of_lt_mul (by rw [Nat.mul_comm]; exact hj)
  have hfl := flat_len R w h.row
  have hB := putR_bd h (i / w) (i % w) (b := 46) rfl hy
  have ei : i / w * w + i % w = i := by rw [Nat.mul_comm]; exact Nat.div_add_mod i w
  have ej : j / w * w + j % w = j := by rw [Nat.mul_comm]; exact Nat.div_add_mod j w
  obtain ⟨b, hb, _, e, _⟩ := cell_get h hy (Nat.mod_lt i (show 0 < w by omega))
  have hg := flat_get R w h.row (i / w) (i % w) hy (Nat.mod_lt i (by omega))
  rw [ei, hb] at hg
  unfold impl_made.f
  rw [mk_size, hfl, if_pos (by omega)]
  congr 1
  apply eq_mk
  rw [strOfNums_data]
  unfold bytesOf
  rw [mk_data, set_bytes _ i j b hg]
  unfold mvR
  rw [putR_flat _ w _ _ _ hB.row (by rw [putR_len]; exact hy') (Nat.mod_lt j (by omega)), putR_flat R w _ _ _ h.row hy (Nat.mod_lt i (by omega)), ei, ej, e, List.set_comm _ _ hne]
theorem wrapS {n : Nat} (h : n ≤ 1000) : wrap64 (n : Int) = (n : Int) := by unfold wrap64; omega
theorem wrapS1 {n : Nat} (h : n ≤ 1000) : wrap64 ((n : Int) + 1) = ((n + 1 : Nat) : Int) := by unfold wrap64; omega
theorem liPut (r : List UInt8) (hr : r.length ≤ 1000) (x : Nat) (hx : x < r.length) (b : UInt8) : spec_liPut.f (mk r) x (mk [b]) = some (mk (r.set x b)) := by
  unfold spec_liPut.f
  rw [wrapS1 (n := x) (by omega), if_pos (by omega), if_pos (by rw [mk_size]; omega), extract_mk, mk_data, Int.toNat_natCast]
  rw [if_pos (by simp; omega), if_pos (by omega), if_pos (by rw [mk_size]; omega), Int.toNat_natCast, extract_mk, mk_data, mk_append, mk_append]
  rw [if_pos (by simp; omega)]
  congr 2
  rw [mk_size, List.set_eq_take_append_cons_drop, if_pos hx, List.drop_zero, Nat.sub_zero, List.take_of_length_le (l := r.drop (x + 1)) (by simp)]
  simp
theorem putR_map (R : List (List UInt8)) (y x : Nat) (b : UInt8) : (putR R y x b).map mk = (R.map mk).set y (mk ((R.getD y []).set x b)) := by
  unfold putR; rw [List.map_set]
theorem boMake_at {R : List (List UInt8)} {w : Nat} (h : Bd R w) {m0 m1 : Int} {y x y' x' : Nat} (hy : y < R.length) (hy' : y' < R.length) (hx : x < w) (hx' : x' < w)
    (d0 : Int.tdiv m0 (w : Int) = (y : Int)) (r0 : Int.tmod m0 (w : Int) = (x : Int)) (d1 : Int.tdiv m1 (w : Int) = (y' : Int)) (r1 : Int.tmod m1 (w : Int) = (x' : Int)) :
    spec_boMake.f (R.map mk) m0 m1 = some ((putR (putR R y x 46) y' x' ((R.getD y []).getD x 0)).map mk) := by
  have n5 := h.n5
  have w1 := h.w1
  have w5 := h.w5
  have h0 : R[0]? = some (R.headD []) := by
    cases R with
    | nil => have := h.n1; simp at this
    | cons a r => rfl
  have hz : (rdOf ByteArray.empty (R.map mk) 0) = mk (R.headD []) := rdOf_mk R 0 _ h0
  obtain ⟨b, hb, hs, e, hrow⟩ := cell_get h hy hx
  obtain ⟨b', hb', hs', e', hrow'⟩ := cell_get (putR_bd h y x (b := 46) rfl hy) (show y' < (putR R y x 46).length by rw [putR_len]; exact hy') hx'
  have hri := rdOf_mk R y _ hrow
  have hrj := rdOf_mk (putR R y x 46) y' _ hrow'
  have hli : (R.getD y []).length = w := h.row _ (List.mem_of_getElem? hrow)
  have hlj : ((putR R y x 46).getD y' []).length = w := (putR_bd h y x (b := 46) rfl hy).row _ (List.mem_of_getElem? hrow')
  have ext : (mk (R.getD y [])).extract x (x + 1) = mk [b] := by
    rw [extract_mk, mk_data]
    have hlt : x < (R.getD y []).length := by rw [hli]; exact hx
    rw [List.drop_eq_getElem_cons hlt, show x + 1 - x = 1 by omega]
    have : (R.getD y [])[x] = b := by
      have := List.getElem?_eq_getElem hlt
      rw [hb] at this
      exact (Option.some.inj this).symm
    rw [this]; rfl
  have m46 : (⟨#[46]⟩ : ByteArray) = mk [46] := rfl
  unfold spec_boMake.f spec_l1OwnS.f
  rw [hz, mk_size, h.head, d0, r0, d1, r1, wrapS (n := y) (by omega), wrapS (n := y') (by omega), wrapS1 (n := x) (by omega), List.length_map]
  rw [if_pos (by omega), if_neg (by omega), if_pos (by omega), if_pos (by omega), if_pos (by omega), if_pos (by omega), hri, mk_size, hli, if_pos (by omega)]
  rw [Option.bind_some, List.nil_append, if_pos (by simp; omega), Option.bind_some, List.length_map, if_pos (by omega), hri, m46, liPut _ (by omega) _ (by omega), Option.bind_some, Option.bind_some]
  have hset : (R.map mk).set y (mk ((R.getD y []).set x 46)) = (putR R y x 46).map mk := (putR_map R y x 46).symm
  rw [Int.toNat_natCast, hset, if_pos (by omega), if_pos (by omega), hrj, Int.toNat_natCast, Int.toNat_natCast, ext, liPut _ (by omega) _ (by omega), Option.bind_some, Int.toNat_natCast]
  rw [e, putR_map (putR R y x 46) y' x' b]
theorem boMake {R : List (List UInt8)} {w : Nat} (h : Bd R w) {i j : Nat} (hi : i < R.length * w) (hj : j < R.length * w) : spec_boMake.f (R.map mk) i j = some ((mvR R w i j).map mk) := by
  have w1 := h.w1
  exact boMake_at h (Nat.div_lt_of_lt_mul (by rw [Nat.mul_comm]; exact hi)) (Nat.div_lt_of_lt_mul (by rw [Nat.mul_comm]; exact hj)) (Nat.mod_lt i w1) (Nat.mod_lt j w1) rfl rfl rfl rfl
end Go.Proofs.YtdgfnoekgeipiaaGreatDoor.Pl
namespace Go.Proofs.YtdgfnoekgeipiaaGreatDoor.Pl
open Go.RowKit Go.Proofs.YtdgfnoekgeipiaaGreatDoorW.PrintWords Go.Proofs.YtdgfnoekgeipiaaGreatDoorW.PrintLast Go.Proofs.YtdgfnoekgeipiaaGreatDoor.Q Go.Lib
theorem wayL_ne (R : List (List UInt8)) (w i : Nat) (w1 : 1 ≤ w) (kind p q : Int) (hpq : (p = 1 ∧ q = 0) ∨ (p = 0 ∧ q = 1) ∨ (p = -1 ∧ q = 0) ∨ (p = 0 ∧ q = -1)) : ∀ m ∈ wayL R w i kind p q, m.f1 ≠ i := by
  intro m hm
  unfold wayL at hm
  have h1 : m.f1 = i + p + q * w ∨ m.f1 = i + 2 * p + 2 * q * w := by
    split at hm
    · simp at hm; rw [hm]; exact .inl rfl
    · split at hm
      · simp at hm; rw [hm]; exact .inr rfl
      · cases hm
  clear hm
  rcases hpq with ⟨rfl, rfl⟩ | ⟨rfl, rfl⟩ | ⟨rfl, rfl⟩ | ⟨rfl, rfl⟩ <;> rcases h1 with h1 | h1 <;> rw [h1] <;> omega
theorem movesAt_ne (R : List (List UInt8)) (w i : Nat) (w1 : 1 ≤ w) : ∀ m ∈ movesAt R w i, m.f1 ≠ i := by
  intro m hm
  unfold movesAt at hm
  split at hm
  · rcases List.mem_append.1 hm with h | h
    · exact wayL_ne R w i w1 _ _ _ (by omega) m h
    · exact wayL_ne R w i w1 _ _ _ (by omega) m h
  · split at hm
    · rcases List.mem_append.1 hm with h | h
      · exact wayL_ne R w i w1 _ _ _ (by omega) m h
      · exact wayL_ne R w i w1 _ _ _ (by omega) m h
    · cases hm
theorem canS_true {R : List (List UInt8)} {w : Nat} (h : Bd R w) {m0 m1 : Int} (hc : canS R w m0 m1 = true) : ∃ i j : Nat, m0 = i ∧ m1 = j ∧ i < R.length * w ∧ j < R.length * w ∧ i ≠ j := by
  have hcast : ((R.length * w : Nat) : Int) = (R.length : Int) * w := Int.natCast_mul _ _
  have hr : 0 ≤ m0 ∧ m0 < R.length * w ∧ 0 ≤ m1 ∧ m1 < R.length * w := by
    apply Classical.byContradiction
    intro hn
    unfold canS at hc
    rw [if_neg hn] at hc
    cases hc
  have ha := can_eq h m0 m1
  rw [hc, List.any_eq_true] at ha
  obtain ⟨m, hm, hi⟩ := ha
  simp only [isMv, Bool.and_eq_true, beq_iff_eq] at hi
  unfold allMoves at hm
  obtain ⟨i, _, hmi⟩ := List.mem_flatMap.1 hm
  have h0 := movesAt_f0 R w i m hmi
  have h1 := movesAt_ne R w i h.w1 m hmi
  exact ⟨m0.toNat, m1.toNat, by omega, by omega, by omega, by omega, by omega⟩
def plays (w : Nat) : List S38 → List (List UInt8) → List (List UInt8) × Nat
  | [], R => (R, 0)
  | m :: l, R => if canS R w m.f0 m.f1 = true then ((plays w l (mvR R w m.f0.toNat m.f1.toNat)).1, (plays w l (mvR R w m.f0.toNat m.f1.toNat)).2 + 1) else (R, 0)
theorem playedF_ev (w : Nat) : ∀ (l : List S38) (R : List (List UInt8)) (n : Int), Bd R w →
    Ev (fun k => playedF (playCan k w) (mk R.flatten) l n) ((if (plays w l R).2 = l.length then mk (plays w l R).1.flatten else ⟨#[]⟩), n + (plays w l R).2)
  | [], R, n, h => by
    unfold plays playedF
    simpa using Ev.now _
  | m :: l, R, n, h => by
    simp only [playedF]
    have hcan := canI h m
    rw [can_eq h] at hcan
    refine Ev.bind hcan ?_
    by_cases hc : canS R w m.f0 m.f1 = true
    · obtain ⟨i, j, e0, e1, hi, hj, hne⟩ := canS_true h hc
      have hb := mvR_bd h hi hj
      have ih := playedF_ev w l _ (n + 1) hb
      simp only [plays, hc, if_true]
      simp only [e0, e1, Int.toNat_natCast, made h hi hj hne, Option.bind_some, List.length_cons, Nat.add_right_cancel_iff]
      have e2 : n + (((plays w l (mvR R w i j)).2 + 1 : Nat) : Int) = n + 1 + ((plays w l (mvR R w i j)).2 : Int) := by omega
      rw [e2]
      exact ih
    · have hc' : canS R w m.f0 m.f1 = false := by simpa using hc
      simp only [plays, hc']
      simpa using Ev.now _
theorem board_play_ev {R : List (List UInt8)} {w : Nat} (h : Bd R w) (l : List S38) :
    Ev (fun k => impl_board_play.f k (mk R.flatten) w l) ((if (plays w l R).2 = l.length then mk (plays w l R).1.flatten else ⟨#[]⟩), (w : Int), ((plays w l R).2 : Int)) := by
  unfold impl_board_play.f
  refine Ev.bind (playedF_ev w l R 0 h) ?_
  simpa using Ev.now _
end Go.Proofs.YtdgfnoekgeipiaaGreatDoor.Pl
namespace Go.Proofs.YtdgfnoekgeipiaaGreatDoor.Pl
open Go.RowKit Go.Proofs.YtdgfnoekgeipiaaGreatDoorW.PrintWords Go.Proofs.YtdgfnoekgeipiaaGreatDoorW.PrintLast Go.Proofs.YtdgfnoekgeipiaaGreatDoor.Q Go.Lib
theorem rd_move (l : List S38) (i : Nat) (m : S38) (h : l[i]? = some m) : rd_T38 l (i : Int) = m := by
  simp [rd_T38, List.getD_eq_getElem?_getD, h]
theorem w64k {n : Int} (h : -10000000 ≤ n ∧ n ≤ 10000000) : wrap64 n = n := by unfold wrap64; omega
theorem boPlay_ev (w : Nat) (l : List S38) (hl : l.length ≤ 2000000) : ∀ (rest : List S38) (i : Nat) (R : List (List UInt8)), l.drop i = rest → i ≤ l.length → Bd R w →
    Ev (fun k => spec_boPlay.l0 k (R.map mk) l l (l.length : Int) (i : Int)) ((plays w rest R).1.map mk, ((i + (plays w rest R).2 : Nat) : Int)) := by
  intro rest
  induction rest with
  | nil =>
    intro i R hd hi hb
    have e : i = l.length := by have := List.drop_eq_nil_iff.1 hd; omega
    refine Ev.step (f := fun _ => some (R.map mk, (l.length : Int))) (fun k => ?_) ?_
    · rw [spec_boPlay.l0, if_neg (by omega)]
    · have : ((plays w [] R).1.map mk, ((i + (plays w [] R).2 : Nat) : Int)) = (R.map mk, (l.length : Int)) := by simp [plays, e]
      rw [this]; exact Ev.now _
  | cons m rest ih =>
    intro i R hd hi hb
    have hm : l[i]? = some m := by
      have : (l.drop i)[0]? = some m := by rw [hd]; rfl
      rwa [List.getElem?_drop] at this
    have hlt : i < l.length := (List.getElem?_eq_some_iff.1 hm).1
    have hd' : l.drop (i + 1) = rest := by rw [← List.drop_drop, hd]; rfl
    refine Ev.step (f := fun k => (spec_boCan.f k (R.map mk) m.f0 m.f1).bind fun t162 => (if t162 = true then ((spec_boMake.f (R.map mk) m.f0 m.f1).bind fun t163 => (spec_boPlay.l0 k t163 l l (l.length : Int) ((i + 1 : Nat) : Int))) else (some (R.map mk, (i : Int))))) (fun k => ?_) ?_
    · rw [spec_boPlay.l0, if_pos (by omega), if_pos (by omega), if_pos (by omega), rd_move l i m hm, w64k (by omega), Int.natCast_succ]
    · refine Ev.bind (boCan hb m.f0 m.f1) ?_
      by_cases hc : canS R w m.f0 m.f1 = true
      · obtain ⟨a, b, e0, e1, ha, hb', hne⟩ := canS_true hb hc
        have hbb := mvR_bd hb ha hb'
        have := ih (i + 1) (mvR R w a b) hd' (by omega) hbb
        simp only [plays, hc, if_true]
        simp only [e0, e1, Int.toNat_natCast, boMake hb ha hb', Option.bind_some]
        have e : i + ((plays w rest (mvR R w a b)).2 + 1) = i + 1 + (plays w rest (mvR R w a b)).2 := by omega
        rw [e]
        simpa using this
      · simp only [plays, hc]
        simpa using Ev.now _
theorem boPlay {R : List (List UInt8)} {w : Nat} (h : Bd R w) (l : List S38) (hl : l.length ≤ 2000000) : Ev (fun k => spec_boPlay.f k (R.map mk) l) ((plays w l R).1.map mk, ((plays w l R).2 : Int)) := by
  unfold spec_boPlay.f
  have := boPlay_ev w l hl l 0 R rfl (by omega) h
  simpa using this
def failRes (a : ByteArray) (l : List S38) : Int × Bool :=
  if isB a.data.toList = true ∧ l.length ≤ 200 ∧ (plays ((spl 47 a.data.toList).headD []).length l (spl 47 a.data.toList)).2 ≠ l.length then ((plays ((spl 47 a.data.toList).headD []).length l (spl 47 a.data.toList)).2, true) else (0, false)
theorem implFail (a : ByteArray) (l : List S38) : Ev (fun k => impl_BoardMoveThatFails.f k a l) (failRes a l) := by
  unfold impl_BoardMoveThatFails.f failRes
  simp only [isBoard, Option.bind_some]
  by_cases hB : isB a.data.toList = true
  · have hb := Bd.of hB
    have hs : a.size ≤ 1000 := by have := isB_short hB; rw [size_len]; omega
    simp only [if_pos hB]
    refine Ev.step (fun k => by rw [impl_BoardMoveThatFails.j0]) ?_
    by_cases hl : l.length ≤ 200
    · have hd : decide ((l.length : Int) > 200) = false := by simp; omega
      simp only [hd, Bool.false_eq_true, if_false, boardOf a hs, Option.bind_some]
      generalize ((spl 47 a.data.toList).headD []).length = w at *
      generalize spl 47 a.data.toList = R at *
      refine Ev.bind (board_play_ev hb l) ?_
      by_cases he : (plays w l R).2 = l.length
      · rw [if_neg (show ¬ (isB a.data.toList = true ∧ l.length ≤ 200 ∧ (plays w l R).2 ≠ l.length) from fun z => z.2.2 he)]
        simp only [he, if_true]
        exact Ev.now _
      · rw [if_pos (show isB a.data.toList = true ∧ l.length ≤ 200 ∧ (plays w l R).2 ≠ l.length from ⟨hB, hl, he⟩)]
        have : ¬ ((plays w l R).2 : Int) = (l.length : Int) := by omega
        simp only [if_neg this]
        exact Ev.now _
    · have hd : decide ((l.length : Int) > 200) = true := by simp; omega
      rw [if_neg (show ¬ (isB a.data.toList = true ∧ l.length ≤ 200 ∧ _) from fun z => hl z.2.1)]
      simp only [hd, if_true]
      exact Ev.now _
  · rw [if_neg (show ¬ (isB a.data.toList = true ∧ _) from fun z => hB z.1)]
    simp only [if_neg hB]
    refine Ev.step (f := fun k => some (0, false)) (fun k => ?_) (Ev.now _)
    rw [impl_BoardMoveThatFails.j0, if_pos rfl]
theorem specFail (a : ByteArray) (l : List S38) : Ev (fun k => spec_BoardMoveThatFails.f k a l) (failRes a l) := by
  unfold spec_BoardMoveThatFails.f failRes
  refine Ev.bind (boRows a) ?_
  by_cases hB : isB a.data.toList = true
  · have hb := Bd.of hB
    simp only [if_pos hB, if_true]
    generalize ((spl 47 a.data.toList).headD []).length = w at *
    generalize spl 47 a.data.toList = R at *
    refine Ev.step (fun k => by rw [spec_BoardMoveThatFails.j0]) ?_
    by_cases hl : l.length ≤ 200
    · have hd : decide ((l.length : Int) > 200) = false := by simp; omega
      simp only [hd, Bool.false_eq_true, if_false]
      refine Ev.bind (boPlay hb l (by omega)) ?_
      by_cases he : (plays w l R).2 = l.length
      · rw [if_neg (show ¬ (isB a.data.toList = true ∧ l.length ≤ 200 ∧ (plays w l R).2 ≠ l.length) from fun z => z.2.2 he)]
        simp only [he, if_true]
        exact Ev.now _
      · rw [if_pos (show isB a.data.toList = true ∧ l.length ≤ 200 ∧ (plays w l R).2 ≠ l.length from ⟨hB, hl, he⟩)]
        have : ¬ ((plays w l R).2 : Int) = (l.length : Int) := by omega
        simp only [if_neg this]
        exact Ev.now _
    · have hd : decide ((l.length : Int) > 200) = true := by simp; omega
      rw [if_neg (show ¬ (isB a.data.toList = true ∧ l.length ≤ 200 ∧ _) from fun z => hl z.2.1)]
      simp only [hd, if_true]
      exact Ev.now _
  · rw [if_neg (show ¬ (isB a.data.toList = true ∧ _) from fun z => hB z.1)]
    simp only [if_neg hB]
    refine Ev.step (f := fun k => some (0, false)) (fun k => ?_) (Ev.now _)
    rw [spec_BoardMoveThatFails.j0]; rfl
end Go.Proofs.YtdgfnoekgeipiaaGreatDoor.Pl
namespace Go.Proofs.YtdgfnoekgeipiaaGreatDoor.Pl
open Go.RowKit Go.Proofs.YtdgfnoekgeipiaaGreatDoorW.PrintWords Go.Proofs.YtdgfnoekgeipiaaGreatDoorW.PrintLast Go.Proofs.YtdgfnoekgeipiaaGreatDoor.Q Go.Lib
def cvMove (x : S40) : S38 := ⟨x.f0, x.f1⟩
theorem rd_lmove (l : List S40) (i : Nat) (m : S40) (h : l[i]? = some m) : rd_T40 l (i : Int) = m := by
  simp [rd_T40, List.getD_eq_getElem?_getD, h]
theorem toMoveS_ev (l : List S40) (hl : l.length ≤ 2000000) : ∀ (rest : List S40) (i : Nat) (acc : List S38), l.drop i = rest → i ≤ l.length → acc.length = l.length →
    Ev (fun k => laws_toMoveS.l0 k l acc (i : Int)) (acc.take i ++ rest.map cvMove) := by
  intro rest
  induction rest with
  | nil =>
    intro i acc hd hi ha
    have e : i = l.length := by have := List.drop_eq_nil_iff.1 hd; omega
    refine Ev.step (f := fun _ => some acc) (fun k => ?_) ?_
    · rw [laws_toMoveS.l0, if_neg (by omega)]
    · rw [List.map_nil, List.append_nil, List.take_of_length_le (by omega)]; exact Ev.now _
  | cons m rest ih =>
    intro i acc hd hi ha
    have hm : l[i]? = some m := by
      have : (l.drop i)[0]? = some m := by rw [hd]; rfl
      rwa [List.getElem?_drop] at this
    have hlt : i < l.length := (List.getElem?_eq_some_iff.1 hm).1
    have hd' : l.drop (i + 1) = rest := by rw [← List.drop_drop, hd]; rfl
    have nx := ih (i + 1) (acc.set i (cvMove m)) hd' (by omega) (by simpa using ha)
    have e : (acc.set i (cvMove m)).take (i + 1) ++ rest.map cvMove = acc.take i ++ (m :: rest).map cvMove := by
      have hi' : i < (acc.set i (cvMove m)).length := by simp; omega
      rw [List.take_succ_eq_append_getElem hi', List.take_set_of_le (Nat.le_refl i)]
      simp
    rw [e] at nx
    refine Ev.step (fun k => ?_) nx
    rw [laws_toMoveS.l0, if_pos (by omega), if_pos (by omega), rd_lmove l i m hm]
    unfold laws_toMove.f
    rw [Option.bind_some, if_pos (by omega), w64k (by omega), Int.natCast_succ, Int.toNat_natCast]
    rfl
theorem toMoveS (l : List S40) (hl : l.length ≤ 2000000) : Ev (fun k => laws_toMoveS.f k l) (l.map cvMove) := by
  unfold laws_toMoveS.f
  simp only [if_pos (show (0 : Int) ≤ (l.length : Int) by omega), Int.toNat_natCast, if_pos (show l.length ≤ 17592186044416 by omega)]
  have := toMoveS_ev l hl l 0 (List.replicate l.length z38) rfl (by omega) (by simp)
  simpa using this
theorem eqMoveS_ev (l : List S38) (hl : l.length ≤ 2000000) : ∀ (rest : List S38) (i : Nat), l.drop i = rest → i ≤ l.length → Ev (fun k => laws_eqMoveS.l0 k l l (i : Int)) true := by
  intro rest
  induction rest with
  | nil =>
    intro i hd hi
    have e : i = l.length := by have := List.drop_eq_nil_iff.1 hd; omega
    refine Ev.step (f := fun _ => some true) (fun k => ?_) (Ev.now _)
    rw [laws_eqMoveS.l0, if_neg (by omega)]
  | cons m rest ih =>
    intro i hd hi
    have hm : l[i]? = some m := by
      have : (l.drop i)[0]? = some m := by rw [hd]; rfl
      rwa [List.getElem?_drop] at this
    have hlt : i < l.length := (List.getElem?_eq_some_iff.1 hm).1
    have hd' : l.drop (i + 1) = rest := by rw [← List.drop_drop, hd]; rfl
    refine Ev.step (fun k => ?_) (ih (i + 1) hd' (by omega))
    rw [laws_eqMoveS.l0, if_pos (by omega), if_pos (by omega), if_pos (by omega), rd_move l i m hm]
    unfold laws_eqMove.f
    rw [if_pos rfl, if_pos rfl, Option.bind_some, if_pos rfl, w64k (by omega), Int.natCast_succ]
theorem eqMoveS (l : List S38) (hl : l.length ≤ 2000000) : Ev (fun k => laws_eqMoveS.f k l l) true := by
  unfold laws_eqMoveS.f
  simp only [if_true]
  have := eqMoveS_ev l hl l 0 rfl (by omega)
  simpa using this
theorem pureFail (a : ByteArray) (l : List S40) (w0 : a.size ≤ 140737488351232) (hl : l.length ≤ 9223372036854775807) {V : S40 → Prop} (hW : ∀ y ∈ l, V y) : ∃ k, laws_FnExactBoardMoveThatFails.f k a l = some true := by
  refine Ev.rounds ?_
  unfold laws_FnExactBoardMoveThatFails.f
  by_cases hs : (a.size : Int) > 1048576
  · simp only [if_pos hs]; exact Ev.now _
  simp only [if_neg hs]
  unfold laws_szMoveS.f
  have hw : wrap64 (1048576 - (l.length : Int)) = 1048576 - (l.length : Int) := by unfold wrap64; omega
  rw [hw]
  by_cases h2 : 1048576 - (l.length : Int) < 0
  · simp only [if_pos h2, Option.bind_some]; exact Ev.now _
  simp only [if_neg h2, Option.bind_some]
  have hl2 : l.length ≤ 2000000 := by omega
  have hl3 : (l.map cvMove).length ≤ 2000000 := by simpa using hl2
  refine Ev.bind (toMoveS l hl2) ?_
  refine Ev.bind (specFail a _) ?_
  refine Ev.bind (toMoveS l hl2) ?_
  refine Ev.bind (implFail a _) ?_
  simp only [if_true, bne_self_eq_false]
  refine Ev.step (fun k => by rw [laws_FnExactBoardMoveThatFails.j0]) ?_
  simp only [Bool.false_eq_true, if_false]
  refine Ev.bind (toMoveS l hl2) ?_
  refine Ev.bind (eqMoveS _ hl3) ?_
  exact Ev.now _
end Go.Proofs.YtdgfnoekgeipiaaGreatDoor.Pl
namespace Go.Proofs.YtdgfnoekgeipiaaGreatDoorW.PrintMore
open Go.RowKit Go.Proofs.YtdgfnoekgeipiaaGreatDoorW.PrintWords Go.Proofs.YtdgfnoekgeipiaaGreatDoorW.PrintLast
open Go.ChangeShapes Go.WideShapes
def Opens {α : Type} (P : Program) (d : Kd α) (W : α → Prop) (t : TypeId) : Prop :=
  P.cellsOf t = d.sz ∧ ∀ (H : Type) (enc : TypeId × Value → H) (w : World) (base : Nat) (sp : Nat → Bool) (held : Bool) (fuel : Nat) (cs : List Value) (x : DataW H × List MemPlace), DataW.trod enc P w base sp held fuel t cs = some x → ∃ v, d.K w v cs ∧ W v
def OpensFs {α : Type} (P : Program) (d : Kd α) (W : α → Prop) (fs : List Field) (off : Nat) : Prop :=
  ∀ (H : Type) (enc : TypeId × Value → H) (w : World) (base : Nat) (sp : Nat → Bool) (held : Bool) (fuel : Nat) (cs : List Value), off + d.sz ≤ cs.length → (∀ f ∈ fs, ∃ y, DataW.trod enc P w base sp held fuel f.type ((cs.drop f.offset).take (P.cellsOf f.type)) = some y) → ∃ v, d.K w v ((cs.drop off).take d.sz) ∧ W v
theorem Opens.int {P : Program} {t : TypeId} {k : IntKind} (ht : P.underlying t = some (.int k)) (hc : P.cellsOf t = 1) : Opens P (Kd.int k) (fun n => (Lit.int k n).wf = true) t := by
  refine ⟨hc, fun H enc w base sp held fuel cs x h => ?_⟩
  obtain ⟨n, rfl, _, hw⟩ := DataW.trod_int ht h
  exact ⟨n, rfl, hw⟩
theorem Opens.bool {P : Program} {t : TypeId} (ht : P.underlying t = some .bool) (hc : P.cellsOf t = 1) : Opens P Kd.bool (fun _ => True) t := by
  refine ⟨hc, fun H enc w base sp held fuel cs x h => ?_⟩
  obtain ⟨n, rfl, _⟩ := DataW.trod_bool ht h
  exact ⟨n, rfl, trivial⟩
theorem Opens.string {P : Program} {t : TypeId} (ht : P.underlying t = some .string) (hc : P.cellsOf t = 1) : Opens P Kd.string (fun _ => True) t := by
  refine ⟨hc, fun H enc w base sp held fuel cs x h => ?_⟩
  obtain ⟨n, rfl, _⟩ := DataW.trod_string ht h
  exact ⟨n, rfl, trivial⟩
theorem Opens.one {α : Type} {P : Program} {d : Kd α} {W : α → Prop} {f : Field} {off : Nat} (h : Opens P d W f.type) (ho : f.offset = off) : OpensFs P d W [f] off := by
  intro H enc w base sp held fuel cs hl hf
  obtain ⟨y, hy⟩ := hf f (by simp)
  rw [ho, h.1] at hy
  exact h.2 _ _ _ _ _ _ _ _ _ hy
theorem Opens.pair {α β : Type} {P : Program} {a : Kd α} {b : Kd β} {V : α → Prop} {W : β → Prop} {f : Field} {fs : List Field} {off : Nat} (h : Opens P a V f.type) (ho : f.offset = off) (hs : OpensFs P b W fs (off + a.sz)) :
    OpensFs P (Kd.pair a b) (fun x => V x.1 ∧ W x.2) (f :: fs) off := by
  intro H enc w base sp held fuel cs hl hf
  have hsz : (Kd.pair a b).sz = a.sz + b.sz := rfl
  obtain ⟨y, hy⟩ := hf f (by simp)
  rw [ho, h.1] at hy
  obtain ⟨v, hv, hV⟩ := h.2 _ _ _ _ _ _ _ _ _ hy
  obtain ⟨u, hu, hU⟩ := hs H enc w base sp held fuel cs (by rw [hsz] at hl; omega) (fun g hg => hf g (List.mem_cons_of_mem _ hg))
  refine ⟨(v, u), ⟨_, _, ?_, hv, hu⟩, hV, hU⟩
  rw [hsz, List.take_add, List.drop_drop]
theorem OpensFs.iso {α β : Type} {P : Program} {d : Kd α} {W : α → Prop} {fs : List Field} {off : Nat} (f : β → α) (g : α → β) (hg : ∀ x, f (g x) = x) (h : OpensFs P d W fs off) : OpensFs P (Kd.iso d f) (fun x => W (f x)) fs off := by
  intro H enc w base sp held fuel cs hl hf
  obtain ⟨v, hv, hW⟩ := h H enc w base sp held fuel cs hl hf
  refine ⟨g v, ?_, by show W (f (g v)); rw [hg]; exact hW⟩
  show d.K w (f (g v)) _
  rw [hg]
  exact hv
theorem OpensFs.struct {α : Type} {P : Program} {d : Kd α} {W : α → Prop} {t : TypeId} {fs : Array Field} (ht : P.underlying t = some (.struct fs)) (hc : P.cellsOf t = d.sz) (h : OpensFs P d W fs.toList 0) : Opens P d W t := by
  refine ⟨hc, fun H enc w base sp held fuel cs x hx => ?_⟩
  obtain ⟨xs, n, _, rfl, hl, hlen, hf⟩ := DataW.trod_struct ht hx
  obtain ⟨v, hv, hW⟩ := h H enc w base sp held n cs (by omega) (fun f hm => by
    obtain ⟨i, hi, rfl⟩ := List.getElem_of_mem hm
    have hi' : i < fs.size := by simpa using hi
    have hix : i < xs.length := by omega
    exact ⟨_, (hf i _ (by simp)).trans (List.getElem?_eq_getElem hix)⟩)
  refine ⟨v, ?_, hW⟩
  rw [List.drop_zero, List.take_of_length_le (by omega)] at hv
  exact hv
theorem Opens.row {α : Type} {P : Program} {d : Kd α} {W : α → Prop} {t e : TypeId} (ht : P.underlying t = some (.slice e)) (h : Opens P d W e) {H : Type} {enc : TypeId × Value → H} {w : World} {base : Nat} {sp : Nat → Bool} {held : Bool} {fuel : Nat} {cs : List Value} {x : DataW H × List MemPlace} (hx : DataW.trod enc P w base sp held fuel t cs = some x) :
    ∃ A c xs, cs = [.slice A xs.length c] ∧ xs.length ≤ c ∧ c ≤ maxLen ∧ d.C w A xs.length xs ∧ ∀ y ∈ xs, W y := by
  rcases Go.Deep.open_slice ht hx with ⟨rfl, _⟩ | ⟨a, len, cap, m, n, D, Pl, rfl, hb, hl, hm, hmm, _, hel⟩
  · exact ⟨none, 0, [], rfl, Nat.le_refl _, Nat.zero_le _, ⟨rfl, Nat.zero_le _, fun z => absurd z (Nat.lt_irrefl _)⟩, fun _ h => by cases h⟩
  · have hlm : len ≤ m := by rw [hmm]; split <;> omega
    have each : ∀ i : Fin len, ∃ v : α, W v ∧ ∃ c, w.cells? base (a.add (i.1 * P.cellsOf e)) (P.cellsOf e) = some c ∧ d.K w v c := by
      intro i
      obtain ⟨cs', h1, h2⟩ := hel i.1 (by have := i.2; omega)
      obtain ⟨v, hv, hW⟩ := h.2 _ _ _ _ _ _ _ _ _ h2
      exact ⟨v, hW, cs', h1, hv⟩
    have hF : ∃ F : Fin len → α, ∀ i, W (F i) ∧ ∃ c, w.cells? base (a.add (i.1 * P.cellsOf e)) (P.cellsOf e) = some c ∧ d.K w (F i) c := ⟨fun i => Classical.choose (each i), fun i => Classical.choose_spec (each i)⟩
    obtain ⟨F, hF⟩ := hF
    have hlen : (List.ofFn F).length = len := List.length_ofFn
    refine ⟨some a, cap, List.ofFn F, by rw [hlen], by rw [hlen]; exact hl, hm, ?_, ?_⟩
    · refine ⟨rfl, by rw [hlen]; exact Nat.le_trans hl (Nat.le_trans hm (by decide)), fun _ => ⟨a, rfl, fun j p hj => ?_⟩⟩
      obtain ⟨hjl, hp⟩ := List.getElem?_eq_some_iff.1 hj
      have hjn : j < len := by omega
      rw [List.getElem_ofFn] at hp
      obtain ⟨_, c, hc, hk⟩ := hF ⟨j, hjn⟩
      subst hp
      refine ⟨c, d.K_len hk, hk, fun i u hu => ?_⟩
      rw [h.1] at hc
      obtain ⟨_, hcl, hcell⟩ := World.cells?_some hc
      have hi : i < d.sz := by have := (List.getElem?_eq_some_iff.1 hu).1; omega
      have := hcell i hi
      rw [Go.Deep.add_add, hu] at this
      exact this
    · intro y hy
      obtain ⟨i, rfl⟩ := List.mem_ofFn.1 hy
      exact (hF i).1
theorem Opens.slice {α : Type} {P : Program} {d : Kd α} {W : α → Prop} {t e : TypeId} (ht : P.underlying t = some (.slice e)) (hc : P.cellsOf t = 1) (h : Opens P d W e) : Opens P (Kd.slice e d) (fun xs => ∀ y ∈ xs, W y) t := by
  refine ⟨hc, fun H enc w base sp held fuel cs x hx => ?_⟩
  obtain ⟨A, c, xs, rfl, hl, _, hr, hW⟩ := Opens.row ht h hx
  exact ⟨xs, ⟨A, c, rfl, hl, hr⟩, hW⟩
end Go.Proofs.YtdgfnoekgeipiaaGreatDoorW.PrintMore
namespace Go.Proofs.YtdgfnoekgeipiaaGreatDoor.rowExactBoardMoveThatFails
open Go.ChangeShapes Go.WideShapes Go.ChangeAt Go.RowKit
open Go.ChangeMaps (open_string shut_string)
open Go.Proofs.YtdgfnoekgeipiaaGreatDoorW.PrintWords Go.Proofs.YtdgfnoekgeipiaaGreatDoorW.PrintMore
set_option linter.unusedVariables false
set_option linter.unusedSimpArgs false
theorem own : ownKnob Tryz.prog.godebug = none := by kernel_rfl
theorem laidOut : laidOutB Tryz.prog = true := by kernel_rfl
theorem gw {W : World} (h : W.ShapedOpen Tryz.prog) : Go.Proofs.YtdgfnoekgeipiaaGreatDoorW.PrintMore.GW W :=
  ⟨trivial, cell_of_shapedOpen_int (zero := #[.int .i64 0]) (t := 3) (g := 0) h (of_decide_eq_true (by kernel_rfl)) (by kernel_rfl) (by kernel_rfl) (by kernel_rfl) (by kernel_rfl) (by kernel_rfl)⟩
set_option maxHeartbeats 1000000 in
set_option maxRecDepth 100000 in
theorem contract (H : Type) (enc : TypeId × Value → H) (W : World) (base : Nat) (args : Array Value) (ds gs : List (DataW H)) (before : List MemPlace)
    (hval0 : ∀ (j : Nat) t v, Tryz.f3.params[j]? = some t → args[j]? = some v → Value.okWide Tryz.prog W .any base t v)
    (hW : DataW.Whole enc Tryz.prog Tryz.f3.params.toList Rows.fnExactBoardMoveThatFailsSpec.vars false W args.toList ds gs before)
    (hsz0 : (DataW.weightsEach Tryz.prog (Tryz.f3.params.toList ++ Rows.fnExactBoardMoveThatFailsSpec.plain.varTypes Tryz.prog) (ds ++ gs)).all (· ≤ reachBytes) = true) (hsh : W.ShapedOpen Tryz.prog) :
    Calls Tryz.prog 3 args W fun e W' => ∃ v, e = .returned v ∧ Rows.fnExactBoardMoveThatFailsSpec.post enc Tryz.prog Tryz.f3 false true false false W args v W' := by
  have hsz := hsz0
  have hval := hval0
  have hW' := hW
  obtain ⟨p, q, hA0, hV, rfl, hfz, hnd⟩ := hW
  have hA : DataW.TrodAll enc Tryz.prog W 0 (fun _ => true) true Tryz.f3.params.toList args.toList ds p := hA0
  rw [Tryz.params3] at hA hval hsz
  obtain ⟨v0, vs0, d0, ds0, p0, q0, hargs, rfl, rfl, h0, r0⟩ := trodAll_cons hA
  obtain ⟨v1, vs1, d1, ds1, p1, q1, rfl, rfl, rfl, h1, r1⟩ := trodAll_cons r0
  obtain ⟨rfl, rfl, rfl⟩ := trodAll_nil r1
  obtain rfl : args = #[v0, v1] := by cases args; simp_all
  obtain ⟨rfl, rfl⟩ := trodVars_none hV
  have k0 := h0
  have lt0 : ∀ x ∈ p0, x.block < W.heap.size := by obtain ⟨m, hm⟩ := k0; exact DataW.trod_lt m _ _ _ hm
  have k1 := h1
  have lt1 : ∀ x ∈ p1, x.block < W.heap.size := by obtain ⟨m, hm⟩ := k1; exact DataW.trod_lt m _ _ _ hm
  obtain ⟨a0, rfl, rfl, rfl, y0⟩ := open_string Tryz.underlying9 (hval 0 9 v0 rfl rfl) h0
  have w0 : a0.size ≤ 140737488351232 := by
    have z := sized_string hsz (j := 0) (t := 9) rfl rfl
    rw [Array.length_toList] at z
    exact z
  obtain ⟨b1, len1, cap1, rfl⟩ := okWide_slice Tryz.underlying22 (hval 1 22 v1 rfl rfl)
  obtain ⟨fuel1, hf1⟩ := h1
  obtain ⟨A1, c1, l1, hc1, hle1, hmx1, hr1, hW1⟩ := Opens.row (d := Q.k40) Tryz.underlying22 (OpensFs.struct Tryz.underlying40 (by kernel_rfl) (OpensFs.iso _ (fun v => ⟨v.1, v.2⟩) (fun _ => rfl) (Opens.pair (Opens.int Tryz.underlying3 (by kernel_rfl)) rfl (Opens.one (Opens.int Tryz.underlying3 (by kernel_rfl)) rfl)))) hf1
  obtain ⟨rfl, rfl, rfl⟩ : b1 = A1 ∧ len1 = l1.length ∧ cap1 = c1 := by simpa [Value.cells] using hc1
  obtain ⟨k, hk⟩ := YtdgfnoekgeipiaaGreatDoor.Pl.pureFail a0 l1 w0 hr1.2.1 hW1
  clear hA0 hval0 hsz0 hsz hval hA
  refine (Q.laws_FnExactBoardMoveThatFails.calls k a0 b1 cap1 l1 true W (gw hsh) hr1 hle1 hk).mono fun e W' ⟨he, bel⟩ => ?_
  subst he
  exact ⟨_, rfl, _, _, _, [], _, [], hW', trodAll_mk1 (shut_bool Tryz.underlying4 _), (trodAll_cons_mk (Below.trod laidOut (by kernel_rfl) (of_decide_eq_true (by kernel_rfl)) k0 bel lt0) (trodAll_cons_mk (Below.trod laidOut (by kernel_rfl) (of_decide_eq_true (by kernel_rfl)) k1 bel lt1) trodAll_mk0)), rfl, bel.frame _, fun h => by cases h⟩
def lay (cs : Array Value) : Obj → Obj
  | .cells _ t frozen => .cells cs t frozen
  | o => o
noncomputable def laidWorld (os : Os) : World :=
  { World.holding Tryz.prog os ⟨#[], #[], []⟩ with heap := ((World.holding Tryz.prog os ⟨#[], #[], []⟩).heap.modify 1 (lay (Go.Pinned.utf8FirstZ.map fun (n : Nat) => Value.int .u8 (n : Int)).toArray)).modify 2 (lay ([128, 191, 160, 191, 128, 159, 144, 191, 128, 143, 0, 0, 0, 0, 0, 0, 0, 0, 0, 0, 0, 0, 0, 0, 0, 0, 0, 0, 0, 0, 0, 0].map fun (n : Int) => Value.int .u8 n).toArray) }
noncomputable abbrev argsW : Array Value := #[.string ByteArray.empty, .slice none 0 0]
set_option maxRecDepth 100000 in
theorem laid_met (os : Os) : laidMet Tryz.prog Rows.fnExactBoardMoveThatFailsRow.laid ((laidWorld os).forCall (fun _ _ => 0) ⟨#[], argsW, []⟩).memory :=
  laidMet_of_run' 8 (by kernel_rfl) (by kernel_rfl)
theorem reads (os : Os) {H : Type} (enc : TypeId × Value → H) : ∃ places, DataW.whole enc Tryz.prog ((laidWorld os).forCall (fun _ _ => 0) ⟨#[], argsW, []⟩).memory Tryz.f3.params.toList Rows.fnExactBoardMoveThatFailsSpec.vars false argsW.toList 8 = some ([.lit (.string []), .nil], [], places) :=
  ⟨[], by kernel_rfl⟩
set_option maxRecDepth 100000 in
theorem lifted (os : Os) (started : os.Started) (H : Type) (enc : TypeId × Value → H) (F : Stop.Interp) :
    ReturnsInHanded {} Tryz.checked os 3 .any ((OpenSpec.ofChange Rows.fnExactBoardMoveThatFailsSpec).preRow enc Tryz.prog Tryz.f3 Rows.fnExactBoardMoveThatFailsRow.domain false Rows.fnExactBoardMoveThatFailsRow.laid) (((OpenSpec.ofChange Rows.fnExactBoardMoveThatFailsSpec).at F).post enc Tryz.prog Tryz.f3 false true false false) := by
  obtain ⟨places, hx⟩ := reads os enc
  refine returnsInHanded_of_row (C := Tryz.checked) (s := OpenSpec.ofChange Rows.fnExactBoardMoveThatFailsSpec) own started (by kernel_rfl) Tryz.func3
    (witness_row_at (enc := enc) (C := Tryz.checked) false (laidWorld os) argsW rfl (by kernel_rfl) (by kernel_rfl) (by kernel_rfl)
      (OpenSpec.preRow_of_cond 8 hx (by kernel_rfl) (fun k hk => by cases hk) (by kernel_rfl) (laid_met os))) ?_
  intro W base args ds gs before hval hW _ _ hsz _ hsh _
  exact contract H enc W base args ds gs before hval hW hsz hsh
theorem said : Rows.FnExactBoardMoveThatFailsSaid :=
  OpenClaim.holds_of_cond 3 Tryz.f3 rfl rfl rfl rfl rfl rfl rfl ⟨rfl, rfl, rfl, rfl, rfl⟩ rfl rfl rfl rfl rfl (by kernel_rfl) Tryz.func3 (by kernel_rfl)
    (of_decide_eq_true (by kernel_rfl)) (by unfold Func.isWrapper; first | (rw [if_pos (by decide +kernel)]; kernel_rfl) | (rw [if_neg (by decide +kernel)]; exact ⟨rfl, rfl⟩))
    (fun os started H enc _ F => by rw [OpenClaim.pre_eq_preRow]; exact lifted os started H enc F)
theorem plain (f : FuncId) (fn : Func) (hf : Tryz.pinned.checked.prog.funcNamed "loop.example/g01271/laws.FnExactBoardMoveThatFails" = some f) (hfn : Tryz.pinned.checked.prog.funcs[f]? = some fn) :
    false = Tryz.pinned.checked.prog.looks [] ∧ ∀ (j : Nat) t, fn.params[j]? = some t → Tryz.pinned.checked.prog.wantsStandIn t = false := by
  obtain rfl : f = 3 := Option.some.inj ((show Tryz.prog.funcNamed "loop.example/g01271/laws.FnExactBoardMoveThatFails" = some 3 by kernel_rfl).symm.trans hf) |>.symm
  obtain rfl : fn = Tryz.f3 := (Option.some.inj (Tryz.func3.symm.trans hfn)).symm
  refine ⟨by kernel_rfl, fun j t ht => ?_⟩
  rw [Tryz.params3] at ht
  have hm : t = 9 ∨ t = 22 := by simpa using Array.mem_of_getElem? ht
  rcases hm with rfl | rfl
  · exact (show Tryz.prog.wantsStandIn 9 = false by kernel_rfl)
  · exact (show Tryz.prog.wantsStandIn 22 = false by kernel_rfl)
theorem card : Rows.FnExactBoardMoveThatFailsCardSaid :=
  Claim7.holds_tied_plain_at .later [] _ _ _ _ said (fun _ h => by cases h) (by kernel_rfl) (fun _ h => by cases h) fnExactBoardMoveThatFails_row_tie rfl ⟨rfl, rfl⟩ (by kernel_rfl) rfl plain (by kernel_rfl)
#print axioms card
end Go.Proofs.YtdgfnoekgeipiaaGreatDoor.rowExactBoardMoveThatFails
