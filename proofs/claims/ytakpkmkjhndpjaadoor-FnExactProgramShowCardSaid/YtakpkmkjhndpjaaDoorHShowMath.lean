/- Plain laws of programs: which are right, what their lines are; both sides' functions answer alike. -/
import Derived.Test.YtakpkmkjhndpjaaDoorHEv
import Derived.Test.YtakpkmkjhndpjaaDoorHLawShow
namespace Go.Proofs.YtakpkmkjhndpjaaDoor.Pure
open Go.RowKit Go.Proofs.YtakpkmkjhndpjaaDoor.Q Go.Proofs.YtakpkmkjhndpjaaDoorW.PrintWords Go.Proofs.YtakpkmkjhndpjaaDoorW.PrintLast

theorem append_list (a b : ByteArray) : (a ++ b).data.toList = a.data.toList ++ b.data.toList := by rw [ByteArray.data_append, Array.toList_append]
theorem strOfNums_list (l : List Int) : (strOfNums l).data.toList = l.map u8of := by
  simp only [strOfNums]
  rfl
theorem size_strOfNums (l : List Int) : (strOfNums l).size = l.length := by simp [strOfNums, ByteArray.size]
theorem size_list (a : ByteArray) : a.data.toList.length = a.size := rfl
theorem bytesOf_map (b : ByteArray) : (bytesOf b).map u8of = b.data.toList := by
  unfold bytesOf
  rw [List.map_map]
  have : (u8of ∘ fun b : UInt8 => (b.toNat : Int)) = id := by
    funext x
    simp [u8of]
  rw [this, List.map_id]
theorem digits_ev : ∀ (n : Nat), n ≤ 1000000 → W (fun k => spec_l01Digits.f k (n : Int)) (fun r => r.data.toList = Lib.decDigits n) := by
  intro n
  induction n using Nat.strongRecOn with
  | _ n ih =>
  intro hn
  refine W.step (fun k => by rw [spec_l01Digits.f]) ?_
  refine W.no (by omega) ?_
  by_cases h : n < 10
  · refine W.yes (by omega) (W.pure ?_)
    rw [strOfNums_list, Lib.decDigits_one h, wrap_id (by omega) (by omega)]
    have e : (48 + (n : Int)) % 256 = ((48 + n : Nat) : Int) := by omega
    rw [e]
    rfl
  · refine W.no (by omega) ?_
    have e1 : wrap64 (Int.tdiv (n : Int) 10) = ((n / 10 : Nat) : Int) := by rw [Int.tdiv_eq_ediv_of_nonneg (by omega), wrap_id (by omega) (by omega)]; omega
    rw [e1]
    refine W.bind (ih (n / 10) (by omega) (by omega)) (fun r hr => ?_)
    refine W.bindc rfl ?_
    have hsz : r.size ≤ 21 := by
      have := Lib.itoa_length_le ((n / 10 : Nat) : Int) (by omega) (by omega)
      rw [Lib.itoa_nonneg, ← hr] at this
      exact this
    refine W.yes (by rw [size_strOfNums]; simp only [List.length_cons, List.length_nil]; omega) (W.pure ?_)
    rw [append_list, hr, strOfNums_list]
    have e2 : wrap64 (48 + Int.tmod (n : Int) 10) % 256 = ((48 + n % 10 : Nat) : Int) := by
      rw [Int.tmod_eq_emod_of_nonneg (by omega), wrap_id (by omega) (by omega)]
      omega
    rw [e2]
    conv => rhs; rw [Lib.decDigits, dif_neg h]
    rfl
theorem digits_itoa (n : Int) (h0 : 0 ≤ n) (h1 : n ≤ 1000000) : W (fun k => spec_l01Digits.f k n) (fun r => r = itoaB n) := by
  obtain ⟨m, rfl⟩ : ∃ m : Nat, n = (m : Int) := ⟨n.toNat, by omega⟩
  refine W.mono (digits_ev m (by omega)) (fun r hr => ?_)
  cases r with
  | mk d =>
    simp only at hr
    simp only [itoaB, Lib.itoa_nonneg, ← hr]

/-- an instruction is right in a program of n -/
def InsP (x : S38) (n : Int) : Prop := 1 ≤ x.f0 ∧ x.f0 ≤ 10 ∧ ((5 ≤ x.f0 ∧ x.f0 ≤ 8) → (0 ≤ x.f2 ∧ x.f2 < n)) ∧ (¬ (5 ≤ x.f0 ∧ x.f0 ≤ 8) → x.f2 = 0) ∧
  (x.f0 = 10 → (x.f1 = 2 ∨ x.f1 = 4)) ∧ ((x.f0 = 4 ∨ x.f0 = 5 ∨ x.f0 = 7 ∨ x.f0 = 9) → x.f1 = 0) ∧ ((x.f0 ≤ 3 ∨ x.f0 = 6 ∨ x.f0 = 8) → (0 ≤ x.f1 ∧ x.f1 ≤ 1000))
instance (x : S38) (n : Int) : Decidable (InsP x n) := by unfold InsP; infer_instance
def insB (x : S38) (n : Int) : Bool := decide (InsP x n)
def lastB (l : List S38) : Bool := decide ((rd_T38 l ((l.length : Int) - 1)).f0 = 5 ∨ (rd_T38 l ((l.length : Int) - 1)).f0 = 9 ∨ (rd_T38 l ((l.length : Int) - 1)).f0 = 10)
def progB (l : List S38) : Bool := decide (1 ≤ l.length ∧ l.length ≤ 50000) && (l.all (fun x => insB x (l.length : Int)) && lastB l)
theorem jumps_dec (op : Int) : impl_jumps.f op = some (decide (5 ≤ op ∧ op ≤ 8)) := by
  rw [jumps_is]
  congr 1
  unfold jumpsB
  rw [Bool.eq_iff_iff]
  simp only [Bool.or_eq_true, beq_iff_eq, decide_eq_true_eq]
  omega
theorem insOK_ev (x : S38) (n : Int) : W (fun k => impl_insOK.f k x.f0 x.f1 x.f2 n) (· = insB x n) := by
  have no : ∀ (m : Int), ¬ InsP x n → W (fun k => impl_insOK.j0 k m true x.f0 x.f1 x.f2) (· = insB x n) := by
    intro m h
    refine W.step (fun k => by rw [impl_insOK.j0]) ?_
    exact W.yes rfl (W.pure (decide_eq_false h).symm)
  have no' : ¬ InsP x n → W (fun _ => some false) (· = insB x n) := fun h => W.pure (decide_eq_false h).symm
  have j2 : ∀ (b : Bool), (1 ≤ x.f0 ∧ x.f0 ≤ 10 ∧ ((5 ≤ x.f0 ∧ x.f0 ≤ 8) → (0 ≤ x.f2 ∧ x.f2 < n)) ∧ (¬ (5 ≤ x.f0 ∧ x.f0 ≤ 8) → x.f2 = 0)) → (b = true ↔ (x.f0 = 4 ∨ x.f0 = 5 ∨ x.f0 = 7 ∨ x.f0 = 9)) → W (fun k => impl_insOK.j2 k x.f0 b x.f0 x.f1 x.f2) (· = insB x n) := by
    intro b h hb
    refine W.step (fun k => by rw [impl_insOK.j2]) ?_
    refine W.ite (fun h1 => ?_) (fun h1 => ?_)
    · refine W.pure ?_
      rw [hb] at h1
      unfold insB
      rw [Bool.eq_iff_iff, beq_iff_eq, decide_eq_true_eq]
      unfold InsP
      omega
    · rw [hb] at h1
      refine W.ite (fun h2 => ?_) (fun h2 => ?_)
      · refine W.ite (fun h3 => W.pure ?_) (fun h3 => W.pure ?_)
        · symm
          apply decide_eq_true
          unfold InsP
          omega
        · unfold insB
          rw [Bool.eq_iff_iff, beq_iff_eq, decide_eq_true_eq]
          unfold InsP
          omega
      · refine W.ite (fun h3 => W.pure ?_) (fun h3 => W.pure ?_)
        · unfold insB
          rw [decide_eq_decide]
          unfold InsP
          omega
        · symm
          apply decide_eq_false
          unfold InsP
          omega
  have j1 : (1 ≤ x.f0 ∧ x.f0 ≤ 10 ∧ ((5 ≤ x.f0 ∧ x.f0 ≤ 8) → (0 ≤ x.f2 ∧ x.f2 < n)) ∧ (¬ (5 ≤ x.f0 ∧ x.f0 ≤ 8) → x.f2 = 0)) → W (fun k => impl_insOK.j1 k x.f0 x.f1 x.f2) (· = insB x n) := by
    intro h
    refine W.step (fun k => by rw [impl_insOK.j1]) ?_
    refine W.ite (fun h1 => j2 _ h (by rw [beq_iff_eq]; omega)) (fun h1 => ?_)
    refine W.ite (fun h2 => j2 _ h (by rw [beq_iff_eq]; omega)) (fun h2 => ?_)
    refine W.ite (fun h3 => j2 _ h (by rw [beq_iff_eq]; omega)) (fun h3 => ?_)
    exact j2 _ h (by rw [beq_iff_eq]; omega)
  refine W.cong (fun k => by rw [impl_insOK.f]) ?_
  refine W.ite (fun h1 => no _ (by unfold InsP; omega)) (fun h1 => ?_)
  refine W.step (fun k => by rw [impl_insOK.j0]) ?_
  refine W.ite (fun h2 => no' ?_) (fun h2 => ?_)
  · have := of_decide_eq_true h2
    unfold InsP
    omega
  · have h2' : ¬ x.f0 > 10 := fun e => h2 (decide_eq_true e)
    refine W.bindc (jumps_dec x.f0) ?_
    refine W.ite (fun h3 => ?_) (fun h3 => ?_)
    · have := of_decide_eq_true h3
      refine W.ite (fun h4 => no' (by unfold InsP; omega)) (fun h4 => ?_)
      refine W.ite (fun h5 => no' (by unfold InsP; omega)) (fun h5 => ?_)
      exact j1 (by omega)
    · have : ¬ (5 ≤ x.f0 ∧ x.f0 ≤ 8) := fun e => h3 (decide_eq_true e)
      refine W.ite (fun h4 => ?_) (fun h4 => no' (by unfold InsP; omega))
      exact j1 (by omega)
theorem rd_len (l : List S38) (h : 1 ≤ l.length) (hl : l.length ≤ 1048576) : wrap64 ((l.length : Int) - 1) = (l.length : Int) - 1 := wrap_id (by omega) (by omega)
theorem all_drop (l : List S38) (f : S38 → Bool) (i : Nat) (h : i < l.length) : (l.drop i).all f = (f (rd_T38 l (i : Int)) && (l.drop (i + 1)).all f) := by
  rw [List.drop_eq_getElem_cons h, List.all_cons, rd38_get l i h]
theorem iOK_loop (l : List S38) (h1 : 1 ≤ l.length) (hl : l.length ≤ 1048576) : ∀ (m i : Nat), l.length - i = m → i ≤ l.length →
    W (fun k => impl_ProgramOK.l0 k l l (l.length : Int) (i : Int)) (· = ((l.drop i).all (fun x => insB x (l.length : Int)) && lastB l)) := by
  intro m
  induction m with
  | zero =>
    intro i hm hi
    have e : i = l.length := by omega
    subst e
    refine W.step (fun k => by rw [impl_ProgramOK.l0]) ?_
    refine W.no (by omega) ?_
    rw [rd_len l h1 hl]
    refine W.yes (by omega) (W.yes (by omega) ?_)
    rw [List.drop_length, List.all_nil, Bool.true_and]
    unfold lastB
    refine W.ite (fun e1 => W.pure (decide_eq_true (.inl e1)).symm) (fun e1 => ?_)
    refine W.ite (fun e2 => W.pure (decide_eq_true (.inr (.inl e2))).symm) (fun e2 => W.pure ?_)
    rw [Bool.eq_iff_iff, beq_iff_eq, decide_eq_true_eq]
    omega
  | succ m ih =>
    intro i hm hi
    have hw : wrap64 ((i : Int) + 1) = ((i + 1 : Nat) : Int) := by rw [wrap_id (by omega) (by omega)]; omega
    refine W.step (fun k => by rw [impl_ProgramOK.l0]) ?_
    rw [hw]
    refine W.yes (by omega) (W.yes (by omega) (W.yes (by omega) (W.bind (insOK_ev _ _) (fun b hb => ?_))))
    rw [all_drop l _ i (by omega), ← hb]
    cases b with
    | true => exact W.yes rfl (ih (i + 1) (by omega) (by omega))
    | false => exact W.no Bool.false_ne_true (W.pure rfl)
theorem iOK_ev (l : List S38) (hl : l.length ≤ 1048576) : W (fun k => impl_ProgramOK.f k l) (· = progB l) := by
  have no : ¬ (1 ≤ l.length ∧ l.length ≤ 50000) → W (fun k => impl_ProgramOK.j0 k l true) (· = progB l) := by
    intro h
    refine W.step (fun k => by rw [impl_ProgramOK.j0]) ?_
    refine W.yes rfl (W.pure ?_)
    unfold progB
    rw [decide_eq_false h]
    rfl
  refine W.cong (fun k => by rw [impl_ProgramOK.f]) ?_
  refine W.ite (fun h => no (by omega)) (fun h => ?_)
  by_cases h2 : (l.length : Int) > 50000
  · rw [decide_eq_true h2]
    exact no (by omega)
  · rw [decide_eq_false h2]
    refine W.step (fun k => by rw [impl_ProgramOK.j0]) ?_
    refine W.no Bool.false_ne_true (W.mono (iOK_loop l (by omega) hl _ 0 rfl (by omega)) (fun b hb => ?_))
    rw [hb, List.drop_zero]
    unfold progB
    rw [decide_eq_true (show 1 ≤ l.length ∧ l.length ≤ 50000 by omega), Bool.true_and]
theorem between_is (a b c : Int) : spec_l01Between.f a b c = some (decide (b ≤ a ∧ a ≤ c)) := by
  unfold spec_l01Between.f
  split
  · congr 1
    rw [decide_eq_decide]
    omega
  · congr 1
    symm
    apply decide_eq_false
    omega
theorem hasTo_is (op : Int) : spec_l17HasTo.f op = some (decide (5 ≤ op ∧ op ≤ 8)) := by
  unfold spec_l17HasTo.f
  rw [between_is]
  rfl
theorem hasNs_is (op : Int) : spec_l17HasN.f op = some (decide ((1 ≤ op ∧ op ≤ 3) ∨ op = 6 ∨ op = 8)) := by
  unfold spec_l17HasN.f
  rw [between_is]
  simp only [Option.bind_some]
  split
  · rename_i h
    have := of_decide_eq_true h
    rw [decide_eq_true (Or.inl this)]
  · rename_i h
    have h' : ¬ (1 ≤ op ∧ op ≤ 3) := fun e => h (decide_eq_true e)
    split
    · rename_i h2
      rw [decide_eq_true (Or.inr (Or.inl h2))]
    · congr 1
      rw [Bool.eq_iff_iff, beq_iff_eq, decide_eq_true_eq]
      omega
theorem goes_is (op : Int) : spec_l17Goes.f op = some (decide (op ≠ 5 ∧ op ≠ 9 ∧ op ≠ 10)) := by
  unfold spec_l17Goes.f
  split
  · congr 1
    symm
    apply decide_eq_false
    omega
  · split
    · congr 1
      symm
      apply decide_eq_false
      omega
    · congr 1
      rw [Bool.eq_iff_iff, bne_iff_ne, decide_eq_true_eq]
      omega
theorem sOK_loop (l : List S38) (h1 : 1 ≤ l.length) (hl : l.length ≤ 1048576) : ∀ (m i : Nat), l.length - i = m → i ≤ l.length →
    W (fun k => spec_ProgramOK.l0 k l (i : Int)) (· = ((l.drop i).all (fun x => insB x (l.length : Int)) && lastB l)) := by
  intro m
  induction m with
  | zero =>
    intro i hm hi
    have e : i = l.length := by omega
    subst e
    refine W.step (fun k => by rw [spec_ProgramOK.l0]) ?_
    refine W.no (by omega) ?_
    rw [rd_len l h1 hl]
    refine W.yes (by omega) (W.yes (by omega) ?_)
    rw [List.drop_length, List.all_nil, Bool.true_and]
    refine W.bindc (goes_is _) (W.pure ?_)
    unfold lastB
    rw [Bool.eq_iff_iff, Bool.not_eq_true', decide_eq_false_iff_not, decide_eq_true_eq]
    omega
  | succ m ih =>
    intro i hm hi
    have hw : wrap64 ((i : Int) + 1) = ((i + 1 : Nat) : Int) := by rw [wrap_id (by omega) (by omega)]; omega
    rw [all_drop l _ i (by omega)]
    generalize hx : rd_T38 l (i : Int) = x
    have go : InsP x (l.length : Int) → W (fun k => spec_ProgramOK.l0 k l (wrap64 ((i : Int) + 1))) (· = (insB x (l.length : Int) && (List.all (l.drop (i + 1)) (fun x => insB x (l.length : Int)) ) && lastB l)) := by
      intro h
      rw [hw]
      refine W.mono (ih (i + 1) (by omega) (by omega)) (fun b hb => ?_)
      have : insB x (l.length : Int) = true := decide_eq_true h
      rw [hb, this, Bool.true_and]
    have no : ¬ InsP x (l.length : Int) → W (fun _ => some false) (· = (insB x (l.length : Int) && (List.all (l.drop (i + 1)) (fun x => insB x (l.length : Int)) ) && lastB l)) := by
      intro h
      have : insB x (l.length : Int) = false := decide_eq_false h
      rw [this]
      exact W.pure rfl
    have j2 : ∀ b : Bool, (b = false ↔ (1 ≤ x.f0 ∧ x.f0 ≤ 10 ∧ ((5 ≤ x.f0 ∧ x.f0 ≤ 8) → (0 ≤ x.f2 ∧ x.f2 < (l.length : Int))) ∧ (¬ (5 ≤ x.f0 ∧ x.f0 ≤ 8) → x.f2 = 0))) → W (fun k => spec_ProgramOK.j2 k l (i : Int) b x.f0 x.f1 x.f2) (· = (insB x (l.length : Int) && (List.all (l.drop (i + 1)) (fun x => insB x (l.length : Int)) ) && lastB l)) := by
      intro b hb
      refine W.step (fun k => by rw [spec_ProgramOK.j2]) ?_
      cases b with
      | true =>
        refine W.yes rfl (no ?_)
        intro h
        have := hb.mpr ⟨h.1, h.2.1, h.2.2.1, h.2.2.2.1⟩
        exact absurd this (by decide)
      | false =>
        have h := hb.mp rfl
        refine W.no Bool.false_ne_true ?_
        refine W.ite (fun h2 => ?_) (fun h2 => ?_)
        · refine W.ite (fun h3 => go (by unfold InsP; omega)) (fun h3 => ?_)
          refine W.ite (fun h4 => go (by unfold InsP; omega)) (fun h4 => no (by unfold InsP; omega))
        · refine W.bindc (hasNs_is x.f0) ?_
          refine W.ite (fun h3 => ?_) (fun h3 => ?_)
          · have h3' := of_decide_eq_true h3
            refine W.bindc (between_is _ _ _) ?_
            refine W.ite (fun h4 => ?_) (fun h4 => ?_)
            · have h4' := of_decide_eq_true h4
              exact go (by unfold InsP; omega)
            · have h4' : ¬ (0 ≤ x.f1 ∧ x.f1 ≤ 1000) := fun e => h4 (decide_eq_true e)
              exact no (by unfold InsP; omega)
          · have h3' : ¬ ((1 ≤ x.f0 ∧ x.f0 ≤ 3) ∨ x.f0 = 6 ∨ x.f0 = 8) := fun e => h3 (decide_eq_true e)
            refine W.ite (fun h4 => go (by unfold InsP; omega)) (fun h4 => no (by unfold InsP; omega))
    have j1 : ∀ most : Int, (most = if 5 ≤ x.f0 ∧ x.f0 ≤ 8 then (l.length : Int) - 1 else 0) → W (fun k => spec_ProgramOK.j1 k l (i : Int) most x.f0 x.f1 x.f2) (· = (insB x (l.length : Int) && (List.all (l.drop (i + 1)) (fun x => insB x (l.length : Int)) ) && lastB l)) := by
      intro most hmost
      refine W.step (fun k => by rw [spec_ProgramOK.j1]) ?_
      refine W.bindc (between_is _ _ _) ?_
      refine W.ite (fun h3 => ?_) (fun h3 => ?_)
      · have h3' := of_decide_eq_true h3
        refine W.bindc (between_is _ _ _) (j2 _ ?_)
        rw [Bool.not_eq_false', decide_eq_true_eq]
        by_cases hj : 5 ≤ x.f0 ∧ x.f0 ≤ 8
        · rw [if_pos hj] at hmost
          omega
        · rw [if_neg hj] at hmost
          omega
      · have h3' : ¬ (1 ≤ x.f0 ∧ x.f0 ≤ 10) := fun e => h3 (decide_eq_true e)
        refine j2 true ⟨fun e => absurd e (by decide), fun e => absurd ⟨e.1, e.2.1⟩ h3'⟩
    refine W.step (fun k => by rw [spec_ProgramOK.l0]) ?_
    rw [hx, rd_len l h1 hl]
    refine W.yes (by omega) (W.yes (by omega) (W.bindc (hasTo_is x.f0) ?_))
    refine W.ite (fun h3 => ?_) (fun h3 => ?_)
    · exact j1 _ (by rw [if_pos (of_decide_eq_true h3)])
    · exact j1 _ (by rw [if_neg (fun e => h3 (decide_eq_true e))])
theorem sOK_ev (l : List S38) (hl : l.length ≤ 1048576) : W (fun k => spec_ProgramOK.f k l) (· = progB l) := by
  refine W.cong (fun k => by rw [spec_ProgramOK.f]) ?_
  refine W.bindc (between_is _ _ _) ?_
  refine W.ite (fun h => ?_) (fun h => ?_)
  · have h' := of_decide_eq_true h
    refine W.mono (sOK_loop l (by omega) hl _ 0 rfl (by omega)) (fun b hb => ?_)
    rw [hb, List.drop_zero]
    unfold progB
    rw [decide_eq_true (show 1 ≤ l.length ∧ l.length ≤ 50000 by omega), Bool.true_and]
  · refine W.pure ?_
    unfold progB
    rw [decide_eq_false (show ¬ (1 ≤ l.length ∧ l.length ≤ 50000) from fun e => h (decide_eq_true (by omega)))]
    rfl

theorem progB_can {l : List S38} (h : progB l = true) : l.length ≤ 50000 ∧ ∀ x ∈ l, InsP x (l.length : Int) := by
  unfold progB at h
  rw [Bool.and_eq_true, Bool.and_eq_true] at h
  have h1 := of_decide_eq_true h.1
  refine ⟨h1.2, fun x hx => ?_⟩
  have := List.all_eq_true.mp h.2.1 x hx
  exact of_decide_eq_true this
theorem can_of {x : S38} {n : Int} (h : InsP x n) (hn : n ≤ 50000) : Q.Can x := by
  obtain ⟨a, b, c, d, e, f, g⟩ := h
  unfold Q.Can
  omega
theorem word_is (op : Int) (h0 : 0 ≤ op) (h1 : op < 11) : spec_l17Word.f op = some (wordB op) := by
  have hl : op < (words11.length : Int) := h1
  show (some words11).bind (fun y113 => (if 0 ≤ op then (if op < (y113.length : Int) then (some (rdOf ByteArray.empty y113 op)) else (none)) else (none))) = some (wordB op)
  rw [Option.bind_some, if_pos h0, if_pos hl]
  rfl
theorem spaced_list (n : Int) (o : ByteArray) : ((o ++ (⟨#[32]⟩ : ByteArray)) ++ itoaB n).data.toList = o.data.toList ++ (spaced n).data.toList := by
  unfold spaced
  rw [append_list, append_list, append_list, List.append_assoc]
theorem line_ev (x : S38) (n : Int) (h : InsP x n) (hn : n ≤ 50000) : W (fun k => spec_l17Line.f k x.f0 x.f1 x.f2) (fun r => r.data.toList ++ [10] = lineI x) := by
  have hc := can_of h hn
  have hs1 := spaced_size x.f1 hc.2.2.1 hc.2.2.2.1
  have hs2 := spaced_size x.f2 hc.2.2.2.2.1 hc.2.2.2.2.2
  have hw := wordB_size x.f0 hc.1 hc.2.1
  have hi1 : (itoaB x.f1).size ≤ 22 := by unfold spaced at hs1; rw [ByteArray.size_append] at hs1; omega
  have hi2 : (itoaB x.f2).size ≤ 22 := by unfold spaced at hs2; rw [ByteArray.size_append] at hs2; omega
  have e32 : (⟨#[32]⟩ : ByteArray).size = 1 := rfl
  obtain ⟨a, b, c, d, e, f, g⟩ := h
  have j1 : ∀ o : ByteArray, o.size ≤ 100 → W (fun k => spec_l17Line.j1 k o x.f0 x.f1 x.f2) (fun r => r.data.toList = o.data.toList ++ (if jumpsB x.f0 then (spaced x.f2).data.toList else [])) := by
    intro o ho
    refine W.step (fun k => by rw [spec_l17Line.j1]) ?_
    refine W.bindc (hasTo_is x.f0) ?_
    refine W.ite (fun h3 => ?_) (fun h3 => ?_)
    · have h3' := of_decide_eq_true h3
      have hj : jumpsB x.f0 = true := by unfold jumpsB; simp only [Bool.or_eq_true, beq_iff_eq]; omega
      refine W.yes (by omega) (W.bind (digits_itoa x.f2 (c h3').1 (by have := (c h3').2; omega)) (fun r hr => ?_))
      rw [hr]
      refine W.yes (by omega) (W.pure ?_)
      rw [spaced_list, hj, if_pos rfl]
    · have h3' : ¬ (5 ≤ x.f0 ∧ x.f0 ≤ 8) := fun e => h3 (decide_eq_true e)
      have hj : jumpsB x.f0 = false := by
        rw [Bool.eq_false_iff]
        intro hj
        unfold jumpsB at hj
        simp only [Bool.or_eq_true, beq_iff_eq] at hj
        omega
      refine W.pure ?_
      rw [hj, if_neg Bool.false_ne_true, List.append_nil]
  have j0 : ∀ (b : Bool), b = hasNB x.f0 → W (fun k => spec_l17Line.j0 k (wordB x.f0) b x.f0 x.f1 x.f2) (fun r => r.data.toList ++ [10] = lineI x) := by
    intro b hb
    refine W.step (fun k => by rw [spec_l17Line.j0]) ?_
    refine W.ite (fun h3 => ?_) (fun h3 => ?_)
    · have hN : hasNB x.f0 = true := by rw [← hb, h3]
      have hN' : x.f0 ≤ 3 ∨ x.f0 = 6 ∨ x.f0 = 8 ∨ x.f0 = 10 := by
        unfold hasNB at hN
        simp only [Bool.or_eq_true, beq_iff_eq, decide_eq_true_eq] at hN
        omega
      refine W.yes (by omega) (W.bind (digits_itoa x.f1 (by omega) (by omega)) (fun r hr => ?_))
      rw [hr]
      refine W.yes (by omega) (W.mono (j1 _ (by rw [ByteArray.size_append, ByteArray.size_append]; omega)) (fun r hr => ?_))
      rw [hr, spaced_list]
      unfold lineI
      rw [hN, if_pos rfl]
    · have hN : hasNB x.f0 = false := by rw [← hb]; exact Bool.eq_false_iff.mpr h3
      refine W.mono (j1 _ (by omega)) (fun r hr => ?_)
      rw [hr]
      unfold lineI
      rw [hN, if_neg Bool.false_ne_true, List.append_nil]
  refine W.cong (fun k => by rw [spec_l17Line.f]) ?_
  refine W.bindc (word_is x.f0 hc.1 hc.2.1) (W.bindc (hasNs_is x.f0) ?_)
  refine W.ite (fun h3 => ?_) (fun h3 => ?_)
  · have h3' := of_decide_eq_true h3
    refine j0 true ?_
    symm
    unfold hasNB
    simp only [Bool.or_eq_true, beq_iff_eq, decide_eq_true_eq]
    omega
  · have h3' : ¬ ((1 ≤ x.f0 ∧ x.f0 ≤ 3) ∨ x.f0 = 6 ∨ x.f0 = 8) := fun e => h3 (decide_eq_true e)
    refine j0 _ ?_
    unfold hasNB
    rw [Bool.eq_iff_iff]
    simp only [Bool.or_eq_true, beq_iff_eq, decide_eq_true_eq]
    omega
theorem show_loop (l : List S38) (hl : l.length ≤ 50000) (hx : ∀ x ∈ l, InsP x (l.length : Int)) : ∀ (m i : Nat) (o : List Int), l.length - i = m → i ≤ l.length → o.map u8of = textI (l.take i) →
    W (fun k => spec_ProgramShow.l0 k l o (i : Int)) (· = showR l) := by
  have hcan : ∀ x ∈ l, Q.Can x := fun x h => can_of (hx x h) (by omega)
  intro m
  induction m with
  | zero =>
    intro i o hm hi ho
    have e : i = l.length := by omega
    subst e
    rw [List.take_length] at ho
    have hlen : o.length = (textI l).length := by rw [← ho, List.length_map]
    refine W.step (fun k => by rw [spec_ProgramShow.l0]) ?_
    refine W.no (by omega) ?_
    unfold showR
    refine W.ite (fun h => W.pure ?_) (fun h => W.pure ?_)
    · rw [if_pos (by omega)]
    · rw [if_neg (by omega), ← ho]
      rfl
  | succ m ih =>
    intro i o hm hi ho
    have hlt : i < l.length := by omega
    have hw : wrap64 ((i : Int) + 1) = ((i + 1 : Nat) : Int) := by rw [wrap_id (by omega) (by omega)]; omega
    have hlen : o.length ≤ 3000000 := by
      have h1 := textI_length (l.take i) (fun y hy => hcan y (List.mem_of_mem_take hy))
      have h2 := List.length_take_le i l
      have h3 : o.length = (textI (l.take i)).length := by rw [← ho, List.length_map]
      omega
    have hxi : InsP (rd_T38 l (i : Int)) (l.length : Int) := by rw [rd38_get l i hlt]; exact hx _ (List.getElem_mem hlt)
    have hlin := lineI_length _ (can_of hxi (by omega))
    refine W.step (fun k => by rw [spec_ProgramShow.l0]) ?_
    rw [hw]
    refine W.yes (by omega) (W.yes (by omega) (W.bind (line_ev _ _ hxi (by omega)) (fun r hr => ?_)))
    have hrl : r.size + 1 = (lineI (rd_T38 l (i : Int))).length := by rw [← hr, List.length_append]; rfl
    refine W.yes (by omega) (W.bindc rfl (W.yes (by rw [List.length_append, bytesOf_length]; omega) ?_))
    refine ih (i + 1) _ (by omega) (by omega) ?_
    rw [textI_take l i hlt, ← ho, ← hr, List.map_append, List.map_append, bytesOf_map]
    simp only [List.append_assoc]
    rfl
theorem sShow_ev (l : List S38) (hl : l.length ≤ 1048576) : W (fun k => spec_ProgramShow.f k l) (· = if progB l = true then showR l else (⟨#[]⟩, 1)) := by
  refine W.cong (fun k => by rw [spec_ProgramShow.f]) (W.bind (sOK_ev l hl) (fun b hb => ?_))
  rw [← hb]
  cases b with
  | true =>
    obtain ⟨h1, h2⟩ := progB_can hb.symm
    rw [if_pos rfl]
    exact W.yes rfl (show_loop l h1 h2 _ 0 [] rfl (by omega) rfl)
  | false =>
    rw [if_neg Bool.false_ne_true]
    exact W.no Bool.false_ne_true (W.pure rfl)

/-- the argument's instructions as the program's own -/
def conv (x : S40) : S38 := ⟨x.f0, x.f1, x.f2⟩
theorem rd40_get (l : List S40) (i : Nat) (h : i < l.length) : rd_T40 l (i : Int) = l[i] := by simp [rd_T40, List.getD, h]
theorem to_loop (l : List S40) (hl : l.length ≤ 1048576) : ∀ (m i : Nat) (o : List S38), l.length - i = m → i ≤ l.length → o.length = l.length → o.take i = (l.take i).map conv →
    W (fun k => laws_toInsS.l0 k l o (i : Int)) (· = l.map conv) := by
  intro m
  induction m with
  | zero =>
    intro i o hm hi ho ht
    have e : i = l.length := by omega
    subst e
    rw [List.take_length, ← ho, List.take_length] at ht
    refine W.step (fun k => by rw [laws_toInsS.l0]) ?_
    exact W.no (by omega) (W.pure ht)
  | succ m ih =>
    intro i o hm hi ho ht
    have hlt : i < l.length := by omega
    have hw : wrap64 ((i : Int) + 1) = ((i + 1 : Nat) : Int) := by rw [wrap_id (by omega) (by omega)]; omega
    refine W.step (fun k => by rw [laws_toInsS.l0]) ?_
    rw [hw]
    refine W.yes (by omega) (W.yes (by omega) (W.bindc rfl (W.yes (by omega) ?_)))
    refine ih (i + 1) _ (by omega) (by omega) (by rw [List.length_set]; exact ho) ?_
    have hn : ((i : Int)).toNat = i := by omega
    rw [hn, rd40_get l i hlt]
    rw [List.take_succ_eq_append_getElem (by rw [List.length_set]; omega), List.take_set_of_le (Nat.le_refl _), ht, List.getElem_set_self, List.take_succ_eq_append_getElem hlt, List.map_append]
    rfl
theorem to_ev (l : List S40) (hl : l.length ≤ 1048576) : W (fun k => laws_toInsS.f k l) (· = l.map conv) := by
  refine W.cong (fun k => by rw [laws_toInsS.f]) ?_
  refine W.yes (by omega) (W.yes (by omega) ?_)
  exact to_loop l hl _ 0 _ rfl (by omega) (by rw [List.length_replicate]; omega) rfl
theorem eq_loop (l : List S38) (hl : l.length ≤ 1048576) : ∀ (m i : Nat), l.length - i = m → i ≤ l.length → W (fun k => laws_eqInsS.l0 k l l (i : Int)) (· = true) := by
  intro m
  induction m with
  | zero =>
    intro i hm hi
    refine W.step (fun k => by rw [laws_eqInsS.l0]) ?_
    exact W.no (by omega) (W.pure rfl)
  | succ m ih =>
    intro i hm hi
    have hw : wrap64 ((i : Int) + 1) = ((i + 1 : Nat) : Int) := by rw [wrap_id (by omega) (by omega)]; omega
    refine W.step (fun k => by rw [laws_eqInsS.l0]) ?_
    rw [hw]
    refine W.yes (by omega) (W.yes (by omega) (W.yes (by omega) ?_))
    refine W.bindc (a := true) (by unfold laws_eqIns.f; rw [if_pos rfl, if_pos rfl, if_pos rfl]) ?_
    exact W.yes rfl (ih (i + 1) (by omega) (by omega))
theorem eq_ev (l : List S38) (hl : l.length ≤ 1048576) : W (fun k => laws_eqInsS.f k l l) (· = true) := by
  refine W.cong (fun k => by rw [laws_eqInsS.f]) ?_
  exact W.yes rfl (eq_loop l hl _ 0 rfl (by omega))

/-- the law, out of its walk -/
theorem showLaw (l : List S40) (A : Option Addr) (c : Nat) (w : World) (hr : Kd.C k40 w A l.length l) (hc : l.length ≤ c) (hm : l.length ≤ 9223372036854775807) (htab : Lib.TabIs Tryd.prog w "internal/strconv.uint64pow10" .u64 Lib.pow10Tab) :
    Calls Tryd.prog 3 #[.slice A l.length c] w fun e w' => e = .returned (.bool true) ∧ Below w.heap.size w w' := by
  have hz : wrap64 (1048576 - (l.length : Int)) = 1048576 - (l.length : Int) := wrap_id (by omega) (by omega)
  by_cases hbig : l.length > 1048576
  · refine Q.showLaw.far l A c w hr hc ?_
    unfold laws_szInsS.f
    rw [hz, if_pos (by omega)]
  · have hl : l.length ≤ 1048576 := by omega
    have hl2 : (l.map conv).length ≤ 1048576 := by rw [List.length_map]; exact hl
    have hsz : laws_szInsS.f l 1048576 = some (1048576 - (l.length : Int)) := by
      unfold laws_szInsS.f
      rw [hz, if_neg (by omega)]
    have e1 := to_ev l hl
    have e2 := sShow_ev (l.map conv) hl2
    have e3 := eq_ev (l.map conv) hl2
    have e4 := iOK_ev (l.map conv) hl2
    cases hp : progB (l.map conv) with
    | true =>
      rw [hp] at e2 e4
      rw [if_pos rfl] at e2
      obtain ⟨_, rfl, k1, g1⟩ := e1.total
      obtain ⟨_, rfl, k2, g2⟩ := e2.total
      obtain ⟨_, rfl, k3, g3⟩ := e3.total
      obtain ⟨_, rfl, k4, g4⟩ := e4.total
      have f1 := g1 (max k1 (max k2 (max k3 k4))) (by omega)
      have f2 := g2 (max k1 (max k2 (max k3 k4))) (by omega)
      have f3 := g3 (max k1 (max k2 (max k3 k4))) (by omega)
      have f4 := g4 (max k1 (max k2 (max k3 k4))) (by omega)
      obtain ⟨p1, p2⟩ := progB_can hp
      refine Q.showLaw.near l (l.map conv) A c w hr hc _ (by omega) hsz _ f1 (showR (l.map conv)).1 (showR (l.map conv)).2 f2 ?_ f3
      intro A' c' w' hb hr' hc'
      exact impl_ProgramShow.yes (l.map conv) A' c' w' hr' hc' ((Lib.tabBelow_of_tabIs htab).on hb).here _ f4 p1 (fun x hx => can_of (p2 x hx) (by omega))
    | false =>
      rw [hp] at e2 e4
      rw [if_neg Bool.false_ne_true] at e2
      obtain ⟨_, rfl, k1, g1⟩ := e1.total
      obtain ⟨_, rfl, k2, g2⟩ := e2.total
      obtain ⟨_, rfl, k3, g3⟩ := e3.total
      obtain ⟨_, rfl, k4, g4⟩ := e4.total
      have f1 := g1 (max k1 (max k2 (max k3 k4))) (by omega)
      have f2 := g2 (max k1 (max k2 (max k3 k4))) (by omega)
      have f3 := g3 (max k1 (max k2 (max k3 k4))) (by omega)
      have f4 := g4 (max k1 (max k2 (max k3 k4))) (by omega)
      refine Q.showLaw.near l (l.map conv) A c w hr hc _ (by omega) hsz _ f1 _ _ f2 ?_ f3
      intro A' c' w' hb hr' hc'
      exact impl_ProgramShow.no (l.map conv) A' c' w' hr' hc' _ f4
end Go.Proofs.YtakpkmkjhndpjaaDoor.Pure
