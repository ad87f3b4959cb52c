/- Texts of this session, one behind the other: HEv HLawShow HShowMath HReadWords HReadNums HReadSpec HReadLine HReadBoth Qx68 Qx69 HLawRead HReadMath. -/
import Derived.Test.YtakpkmkjhndpjaaDoorQx0
import Derived.Test.YtakpkmkjhndpjaaDoorQx1
import Derived.Test.YtakpkmkjhndpjaaDoorQx10
import Derived.Test.YtakpkmkjhndpjaaDoorQx12
import Derived.Test.YtakpkmkjhndpjaaDoorQx42
import Derived.Test.YtakpkmkjhndpjaaDoorHProg
import Derived.Test.YtakpkmkjhndpjaaDoorQx47
import Derived.Test.YtakpkmkjhndpjaaDoorMRa
/- A calculus for functions with a number of rounds: from some round on one answer, and what is known of it. -/
namespace Go.Proofs.YtakpkmkjhndpjaaDoor.Pure
open Go.RowKit
/-- from some number of rounds on the answer is r -/
def Ev {α : Type} (F : Nat → Option α) (r : α) : Prop := ∃ k, ∀ j, k ≤ j → F j = some r
theorem Ev.pure {α : Type} (r : α) : Ev (fun _ => some r) r := ⟨0, fun _ _ => rfl⟩
theorem Ev.bind {α β : Type} {F : Nat → Option α} {G : Nat → α → Option β} {a : α} {r : β} (h : Ev F a) (g : Ev (fun k => G k a) r) : Ev (fun k => (F k).bind (G k)) r := by
  obtain ⟨k1, h1⟩ := h
  obtain ⟨k2, h2⟩ := g
  exact ⟨max k1 k2, fun j hj => by simp [h1 j (by omega), h2 j (by omega)]⟩
theorem Ev.succ {α : Type} {F G : Nat → Option α} {r : α} (h : Ev G r) (e : ∀ k, F (k + 1) = G k) : Ev F r := by
  obtain ⟨k, h1⟩ := h
  refine ⟨k + 1, fun j hj => ?_⟩
  cases j with
  | zero => omega
  | succ j => rw [e]; exact h1 j (by omega)
theorem Ev.congr {α : Type} {F G : Nat → Option α} {r : α} (h : Ev G r) (e : ∀ k, F k = G k) : Ev F r := by
  obtain ⟨k, h1⟩ := h
  exact ⟨k, fun j hj => by rw [e]; exact h1 j hj⟩

theorem wrap_id {x : Int} (h1 : -9223372036854775808 ≤ x) (h2 : x < 9223372036854775808) : wrap64 x = x := by
  unfold wrap64; omega
/-- from some number of rounds on there is one answer, and it is as P says -/
def W {α : Type} (F : Nat → Option α) (P : α → Prop) : Prop := ∃ r, Ev F r ∧ P r
theorem W.of {α : Type} {F : Nat → Option α} {P : α → Prop} {r : α} (h : Ev F r) (p : P r) : W F P := ⟨r, h, p⟩
theorem W.pure {α : Type} {P : α → Prop} {r : α} (p : P r) : W (fun _ => some r) P := ⟨r, Ev.pure r, p⟩
theorem W.mono {α : Type} {F : Nat → Option α} {P Q : α → Prop} (h : W F P) (q : ∀ a, P a → Q a) : W F Q := by
  obtain ⟨r, e, p⟩ := h
  exact ⟨r, e, q r p⟩
theorem W.bind {α β : Type} {F : Nat → Option α} {G : Nat → α → Option β} {P : α → Prop} {Q : β → Prop} (h : W F P) (g : ∀ a, P a → W (fun k => G k a) Q) : W (fun k => (F k).bind (G k)) Q := by
  obtain ⟨r, e, p⟩ := h
  obtain ⟨r2, e2, p2⟩ := g r p
  exact ⟨r2, Ev.bind e e2, p2⟩
theorem W.step {α : Type} {F G : Nat → Option α} {P : α → Prop} (e : ∀ k, F (k + 1) = G k) (h : W G P) : W F P := by
  obtain ⟨r, e2, p⟩ := h
  exact ⟨r, Ev.succ e2 e, p⟩
theorem W.cong {α : Type} {F G : Nat → Option α} {P : α → Prop} (e : ∀ k, F k = G k) (h : W G P) : W F P := by
  obtain ⟨r, e2, p⟩ := h
  exact ⟨r, Ev.congr e2 e, p⟩
theorem W.ite {α : Type} {c : Prop} [Decidable c] {F G : Nat → Option α} {P : α → Prop} (h1 : c → W F P) (h2 : ¬ c → W G P) : W (fun k => if c then F k else G k) P := by
  by_cases h : c
  · exact W.cong (fun k => if_pos h) (h1 h)
  · exact W.cong (fun k => if_neg h) (h2 h)
set_option linter.unusedVariables false in
theorem W.yes {α : Type} {c : Prop} [Decidable c] {F G : Nat → Option α} {P : α → Prop} (h : c) (h1 : W F P) : W (fun k => if c then F k else G k) P := W.cong (fun k => if_pos h) h1
set_option linter.unusedVariables false in
theorem W.no {α : Type} {c : Prop} [Decidable c] {F G : Nat → Option α} {P : α → Prop} (h : ¬ c) (h1 : W G P) : W (fun k => if c then F k else G k) P := W.cong (fun k => if_neg h) h1
theorem W.bindc {α β : Type} {X : Option α} {G : Nat → α → Option β} {a : α} {Q : β → Prop} (h : X = some a) (g : W (fun k => G k a) Q) : W (fun k => X.bind (G k)) Q := by
  subst h
  exact g
theorem W.ev {α : Type} {F : Nat → Option α} {r : α} (h : W F (· = r)) : Ev F r := by
  obtain ⟨r', e, p⟩ := h
  subst p
  exact e

theorem W.bindE {α β : Type} {F : Nat → Option α} {G : Nat → α → Option β} {a : α} {Q : β → Prop} (h : Ev F a) (g : W (fun k => G k a) Q) : W (fun k => (F k).bind (G k)) Q := by
  obtain ⟨r2, e2, p2⟩ := g
  exact ⟨r2, Ev.bind h e2, p2⟩
theorem W.total {α : Type} {F : Nat → Option α} {P : α → Prop} (h : W F P) : ∃ r, P r ∧ ∃ k, ∀ j, k ≤ j → F j = some r := by
  obtain ⟨r, e, p⟩ := h
  exact ⟨r, p, e⟩
end Go.Proofs.YtakpkmkjhndpjaaDoor.Pure

/- The law's own walk: what is drawn out of the argument is shown alike by both sides, and the argument stays. -/
namespace Go.Proofs.YtakpkmkjhndpjaaDoor.Q
open Go.RowKit Go.Shelf Go.Proofs.YtakpkmkjhndpjaaDoorW.PrintWords Go.Proofs.YtakpkmkjhndpjaaDoorW.PrintLast
set_option linter.unusedVariables false
set_option linter.unusedSimpArgs false

set_option maxHeartbeats 1000000 in
set_option maxRecDepth 100000 in
theorem showLaw.far (l : List S40) (A : Option Addr) (c : Nat) (w : World) (hr : Kd.C k40 w A l.length l) (hc : l.length ≤ c) (hs : laws_szInsS.f l 1048576 = some (-1)) :
    Calls Tryd.prog 3 #[.slice A l.length c] w fun e w' => e = .returned (.bool true) ∧ Below w.heap.size w w' := by
  have HR := Aside0.mk hr
  have HC := Aside0.mk hc
  have HS := Aside0.mk hs
  clear hr hc hs
  go_enter Tryd.func3, Tryd.ntmps3
  go_wp2_with (go_at_call 5; refine (laws_szInsS.calls A c l 1048576 (-1) w HR.out HC.out HS.out).mono ?_; rintro e w1 ⟨rfl, hd⟩; obtain ⟨nd, rfl⟩ := hd.out; clear hd)
  go_ret
  exact ⟨rfl, pw_below_drewN (Below.refl _ _) nd⟩
set_option maxHeartbeats 1000000 in
set_option maxRecDepth 100000 in
theorem showLaw.near (l : List S40) (m : List S38) (A : Option Addr) (c : Nat) (w : World) (hr : Kd.C k40 w A l.length l) (hc : l.length ≤ c) (r0 : Int) (h0 : 0 ≤ r0) (hs : laws_szInsS.f l 1048576 = some r0)
    (k : Nat) (h1 : laws_toInsS.f k l = some m) (r1 : ByteArray) (r2 : Int) (h2 : spec_ProgramShow.f k m = some (r1, r2))
    (h3 : ∀ (A : Option Addr) (c : Nat) (w' : World), Below w.heap.size w w' → Kd.C k38 w' A m.length m → m.length ≤ c → Calls Tryd.prog 8 #[.slice A m.length c] w' fun e w2 => e = .returned (.tuple #[.string r1, .int .i64 r2]) ∧ Below w'.heap.size w' w2)
    (h4 : laws_eqInsS.f k m m = some true) :
    Calls Tryd.prog 3 #[.slice A l.length c] w fun e w' => e = .returned (.bool true) ∧ Below w.heap.size w w' := by
  have HR := Aside0.mk hr
  have HC := Aside0.mk hc
  have HS := Aside0.mk hs
  have H1 := Aside0.mk h1
  have H2 := Aside0.mk h2
  have H3 := Aside0.mk h3
  have H4 := Aside0.mk h4
  clear hr hc hs h1 h2 h3 h4
  go_enter Tryd.func3, Tryd.ntmps3
  go_wp2_with fail
  refine (laws_szInsS.calls A c l 1048576 r0 w HR.out HC.out HS.out).mono ?_
  rintro e w1 ⟨rfl, hd⟩
  obtain ⟨nd, rfl⟩ := hd.out
  clear hd
  have B1 := Aside0.mk (pw_below_drewN (Below.refl w.heap.size w) nd)
  have hd0 : decide (r0 < 0) = false := decide_eq_false (by omega)
  go_wp2_with fail
  refine (laws_toInsS.calls k A c l m _ (Kd.C_below HR.out B1.out) HC.out H1.out).mono ?_
  rintro e w2 ⟨v0, rfl, hR2, hb2⟩
  have B2 := Aside0.mk (below_step B1.out hb2)
  obtain ⟨A2, c2, rfl⟩ := Kd.R_slice hR2
  have R2 := Aside0.mk (Kd.R_reads' hR2).2.2
  have L2 := Aside0.mk (Kd.R_reads' hR2).2.1
  clear hR2 hb2 B1
  go_wp2_with fail
  refine (spec_ProgramShow.calls k A2 c2 m r1 r2 _ R2.out L2.out H2.out).mono ?_
  rintro e w3 ⟨rfl, hb3⟩
  have B3 := Aside0.mk (below_step B2.out hb3)
  clear hb3 B2 R2 L2
  go_wp2_with fail
  refine (laws_toInsS.calls k A c l m _ (Kd.C_below HR.out B3.out) HC.out H1.out).mono ?_
  rintro e w4 ⟨v1, rfl, hR4, hb4⟩
  have B4 := Aside0.mk (below_step B3.out hb4)
  obtain ⟨A4, c4, rfl⟩ := Kd.R_slice hR4
  have R4 := Aside0.mk (Kd.R_reads' hR4).2.2
  have L4 := Aside0.mk (Kd.R_reads' hR4).2.1
  clear hR4 hb4 B3
  go_wp2_with fail
  refine (H3.out A4 c4 _ B4.out R4.out L4.out).mono ?_
  rintro e w5 ⟨rfl, hb5⟩
  have B5 := Aside0.mk (below_step B4.out hb5)
  have R5 := Aside0.mk (Kd.C_below R4.out hb5)
  clear hb5 B4 R4
  go_wp2_with fail
  refine (laws_toInsS.calls k A c l m _ (Kd.C_below HR.out B5.out) HC.out H1.out).mono ?_
  rintro e w6 ⟨v2, rfl, hR6, hb6⟩
  have B6 := Aside0.mk (below_step B5.out hb6)
  have R5' := Aside0.mk (Kd.C_below R5.out hb6)
  obtain ⟨A6, c6, rfl⟩ := Kd.R_slice hR6
  have R6 := Aside0.mk (Kd.R_reads' hR6).2.2
  have L6 := Aside0.mk (Kd.R_reads' hR6).2.1
  clear hR6 hb6 B5 R5
  go_wp2_with fail
  refine (laws_eqInsS.calls k A4 c4 m A6 c6 m true _ R5'.out L4.out R6.out L6.out H4.out).mono ?_
  rintro e w7 ⟨rfl, hb7⟩
  have B7 := Aside0.mk (below_step B6.out hb7)
  clear hb7
  go_wp2_with fail
  go_ret
  exact ⟨rfl, B7.out⟩
end Go.Proofs.YtakpkmkjhndpjaaDoor.Q

/- Plain laws of programs: which are right, what their lines are; both sides' functions answer alike. -/
namespace Go.Proofs.YtakpkmkjhndpjaaDoor.Pure
open Go.RowKit Go.Proofs.YtakpkmkjhndpjaaDoor.Q Go.Proofs.YtakpkmkjhndpjaaDoorW.PrintWords Go.Proofs.YtakpkmkjhndpjaaDoorW.PrintLast

theorem append_list (a b : ByteArray) : (a ++ b).data.toList = a.data.toList ++ b.data.toList := by rw [ByteArray.data_append, Array.toList_append]
theorem strOfNums_list (l : List Int) : (strOfNums l).data.toList = l.map u8of := by
  simp only [strOfNums]
  rfl
theorem size_strOfNums (l : List Int) : (strOfNums l).size = l.length := by simp [strOfNums, ByteArray.size]
theorem size_list (a : ByteArray) : a.data.toList.length = a.size := rfl
theorem bytesOf_map (b : ByteArray) : (bytesOf b).map u8of = b.data.toList := by
  unfold bytesOf
  rw [List.map_map]
  have : (u8of ∘ fun b : UInt8 => (b.toNat : Int)) = id := by
    funext x
    simp [u8of]
  rw [this, List.map_id]
theorem digits_ev : ∀ (n : Nat), n ≤ 1000000 → W (fun k => spec_l01Digits.f k (n : Int)) (fun r => r.data.toList = Lib.decDigits n) := by
  intro n
  induction n using Nat.strongRecOn with
  | _ n ih =>
  intro hn
  refine W.step (fun k => by rw [spec_l01Digits.f]) ?_
  refine W.no (by omega) ?_
  by_cases h : n < 10
  · refine W.yes (by omega) (W.pure ?_)
    rw [strOfNums_list, Lib.decDigits_one h, wrap_id (by omega) (by omega)]
    have e : (48 + (n : Int)) % 256 = ((48 + n : Nat) : Int) := by omega
    rw [e]
    rfl
  · refine W.no (by omega) ?_
    have e1 : wrap64 (Int.tdiv (n : Int) 10) = ((n / 10 : Nat) : Int) := by rw [Int.tdiv_eq_ediv_of_nonneg (by omega), wrap_id (by omega) (by omega)]; omega
    rw [e1]
    refine W.bind (ih (n / 10) (by omega) (by omega)) (fun r hr => ?_)
    refine W.bindc rfl ?_
    have hsz : r.size ≤ 21 := by
      have := Lib.itoa_length_le ((n / 10 : Nat) : Int) (by omega) (by omega)
      rw [Lib.itoa_nonneg, ← hr] at this
      exact this
    refine W.yes (by rw [size_strOfNums]; simp only [List.length_cons, List.length_nil]; omega) (W.pure ?_)
    rw [append_list, hr, strOfNums_list]
    have e2 : wrap64 (48 + Int.tmod (n : Int) 10) % 256 = ((48 + n % 10 : Nat) : Int) := by
      rw [Int.tmod_eq_emod_of_nonneg (by omega), wrap_id (by omega) (by omega)]
      omega
    rw [e2]
    conv => rhs; rw [Lib.decDigits, dif_neg h]
    rfl
theorem digits_itoa (n : Int) (h0 : 0 ≤ n) (h1 : n ≤ 1000000) : W (fun k => spec_l01Digits.f k n) (fun r => r = itoaB n) := by
  obtain ⟨m, rfl⟩ : ∃ m : Nat, n = (m : Int) := ⟨n.toNat, by omega⟩
  refine W.mono (digits_ev m (by omega)) (fun r hr => ?_)
  cases r with
  | mk d =>
    simp only at hr
    simp only [itoaB, Lib.itoa_nonneg, ← hr]

/-- an instruction is right in a program of n -/
def InsP (x : S38) (n : Int) : Prop := 1 ≤ x.f0 ∧ x.f0 ≤ 10 ∧ ((5 ≤ x.f0 ∧ x.f0 ≤ 8) → (0 ≤ x.f2 ∧ x.f2 < n)) ∧ (¬ (5 ≤ x.f0 ∧ x.f0 ≤ 8) → x.f2 = 0) ∧
  (x.f0 = 10 → (x.f1 = 2 ∨ x.f1 = 4)) ∧ ((x.f0 = 4 ∨ x.f0 = 5 ∨ x.f0 = 7 ∨ x.f0 = 9) → x.f1 = 0) ∧ ((x.f0 ≤ 3 ∨ x.f0 = 6 ∨ x.f0 = 8) → (0 ≤ x.f1 ∧ x.f1 ≤ 1000))
instance (x : S38) (n : Int) : Decidable (InsP x n) := by unfold InsP; infer_instance
def insB (x : S38) (n : Int) : Bool := decide (InsP x n)
def lastB (l : List S38) : Bool := decide ((rd_T38 l ((l.length : Int) - 1)).f0 = 5 ∨ (rd_T38 l ((l.length : Int) - 1)).f0 = 9 ∨ (rd_T38 l ((l.length : Int) - 1)).f0 = 10)
def progB (l : List S38) : Bool := decide (1 ≤ l.length ∧ l.length ≤ 50000) && (l.all (fun x => insB x (l.length : Int)) && lastB l)
theorem jumps_dec (op : Int) : impl_jumps.f op = some (decide (5 ≤ op ∧ op ≤ 8)) := by
  rw [jumps_is]
  congr 1
  unfold jumpsB
  rw [Bool.eq_iff_iff]
  simp only [Bool.or_eq_true, beq_iff_eq, decide_eq_true_eq]
  omega
theorem insOK_ev (x : S38) (n : Int) : W (fun k => impl_insOK.f k x.f0 x.f1 x.f2 n) (· = insB x n) := by
  have no : ∀ (m : Int), ¬ InsP x n → W (fun k => impl_insOK.j0 k m true x.f0 x.f1 x.f2) (· = insB x n) := by
    intro m h
    refine W.step (fun k => by rw [impl_insOK.j0]) ?_
    exact W.yes rfl (W.pure (decide_eq_false h).symm)
  have no' : ¬ InsP x n → W (fun _ => some false) (· = insB x n) := fun h => W.pure (decide_eq_false h).symm
  have j2 : ∀ (b : Bool), (1 ≤ x.f0 ∧ x.f0 ≤ 10 ∧ ((5 ≤ x.f0 ∧ x.f0 ≤ 8) → (0 ≤ x.f2 ∧ x.f2 < n)) ∧ (¬ (5 ≤ x.f0 ∧ x.f0 ≤ 8) → x.f2 = 0)) → (b = true ↔ (x.f0 = 4 ∨ x.f0 = 5 ∨ x.f0 = 7 ∨ x.f0 = 9)) → W (fun k => impl_insOK.j2 k x.f0 b x.f0 x.f1 x.f2) (· = insB x n) := by
    intro b h hb
    refine W.step (fun k => by rw [impl_insOK.j2]) ?_
    refine W.ite (fun h1 => ?_) (fun h1 => ?_)
    · refine W.pure ?_
      rw [hb] at h1
      unfold insB
      rw [Bool.eq_iff_iff, beq_iff_eq, decide_eq_true_eq]
      unfold InsP
      omega
    · rw [hb] at h1
      refine W.ite (fun h2 => ?_) (fun h2 => ?_)
      · refine W.ite (fun h3 => W.pure ?_) (fun h3 => W.pure ?_)
        · symm
          apply decide_eq_true
          unfold InsP
          omega
        · unfold insB
          rw [Bool.eq_iff_iff, beq_iff_eq, decide_eq_true_eq]
          unfold InsP
          omega
      · refine W.ite (fun h3 => W.pure ?_) (fun h3 => W.pure ?_)
        · unfold insB
          rw [decide_eq_decide]
          unfold InsP
          omega
        · symm
          apply decide_eq_false
          unfold InsP
          omega
  have j1 : (1 ≤ x.f0 ∧ x.f0 ≤ 10 ∧ ((5 ≤ x.f0 ∧ x.f0 ≤ 8) → (0 ≤ x.f2 ∧ x.f2 < n)) ∧ (¬ (5 ≤ x.f0 ∧ x.f0 ≤ 8) → x.f2 = 0)) → W (fun k => impl_insOK.j1 k x.f0 x.f1 x.f2) (· = insB x n) := by
    intro h
    refine W.step (fun k => by rw [impl_insOK.j1]) ?_
    refine W.ite (fun h1 => j2 _ h (by rw [beq_iff_eq]; omega)) (fun h1 => ?_)
    refine W.ite (fun h2 => j2 _ h (by rw [beq_iff_eq]; omega)) (fun h2 => ?_)
    refine W.ite (fun h3 => j2 _ h (by rw [beq_iff_eq]; omega)) (fun h3 => ?_)
    exact j2 _ h (by rw [beq_iff_eq]; omega)
  refine W.cong (fun k => by rw [impl_insOK.f]) ?_
  refine W.ite (fun h1 => no _ (by unfold InsP; omega)) (fun h1 => ?_)
  refine W.step (fun k => by rw [impl_insOK.j0]) ?_
  refine W.ite (fun h2 => no' ?_) (fun h2 => ?_)
  · have := of_decide_eq_true h2
    unfold InsP
    omega
  · have h2' : ¬ x.f0 > 10 := fun e => h2 (decide_eq_true e)
    refine W.bindc (jumps_dec x.f0) ?_
    refine W.ite (fun h3 => ?_) (fun h3 => ?_)
    · have := of_decide_eq_true h3
      refine W.ite (fun h4 => no' (by unfold InsP; omega)) (fun h4 => ?_)
      refine W.ite (fun h5 => no' (by unfold InsP; omega)) (fun h5 => ?_)
      exact j1 (by omega)
    · have : ¬ (5 ≤ x.f0 ∧ x.f0 ≤ 8) := fun e => h3 (decide_eq_true e)
      refine W.ite (fun h4 => ?_) (fun h4 => no' (by unfold InsP; omega))
      exact j1 (by omega)
theorem rd_len (l : List S38) (h : 1 ≤ l.length) (hl : l.length ≤ 1048576) : wrap64 ((l.length : Int) - 1) = (l.length : Int) - 1 := wrap_id (by omega) (by omega)
theorem all_drop (l : List S38) (f : S38 → Bool) (i : Nat) (h : i < l.length) : (l.drop i).all f = (f (rd_T38 l (i : Int)) && (l.drop (i + 1)).all f) := by
  rw [List.drop_eq_getElem_cons h, List.all_cons, rd38_get l i h]
theorem iOK_loop (l : List S38) (h1 : 1 ≤ l.length) (hl : l.length ≤ 1048576) : ∀ (m i : Nat), l.length - i = m → i ≤ l.length →
    W (fun k => impl_ProgramOK.l0 k l l (l.length : Int) (i : Int)) (· = ((l.drop i).all (fun x => insB x (l.length : Int)) && lastB l)) := by
  intro m
  induction m with
  | zero =>
    intro i hm hi
    have e : i = l.length := by omega
    subst e
    refine W.step (fun k => by rw [impl_ProgramOK.l0]) ?_
    refine W.no (by omega) ?_
    rw [rd_len l h1 hl]
    refine W.yes (by omega) (W.yes (by omega) ?_)
    rw [List.drop_length, List.all_nil, Bool.true_and]
    unfold lastB
    refine W.ite (fun e1 => W.pure (decide_eq_true (.inl e1)).symm) (fun e1 => ?_)
    refine W.ite (fun e2 => W.pure (decide_eq_true (.inr (.inl e2))).symm) (fun e2 => W.pure ?_)
    rw [Bool.eq_iff_iff, beq_iff_eq, decide_eq_true_eq]
    omega
  | succ m ih =>
    intro i hm hi
    have hw : wrap64 ((i : Int) + 1) = ((i + 1 : Nat) : Int) := by rw [wrap_id (by omega) (by omega)]; omega
    refine W.step (fun k => by rw [impl_ProgramOK.l0]) ?_
    rw [hw]
    refine W.yes (by omega) (W.yes (by omega) (W.yes (by omega) (W.bind (insOK_ev _ _) (fun b hb => ?_))))
    rw [all_drop l _ i (by omega), ← hb]
    cases b with
    | true => exact W.yes rfl (ih (i + 1) (by omega) (by omega))
    | false => exact W.no Bool.false_ne_true (W.pure rfl)
theorem iOK_ev (l : List S38) (hl : l.length ≤ 1048576) : W (fun k => impl_ProgramOK.f k l) (· = progB l) := by
  have no : ¬ (1 ≤ l.length ∧ l.length ≤ 50000) → W (fun k => impl_ProgramOK.j0 k l true) (· = progB l) := by
    intro h
    refine W.step (fun k => by rw [impl_ProgramOK.j0]) ?_
    refine W.yes rfl (W.pure ?_)
    unfold progB
    rw [decide_eq_false h]
    rfl
  refine W.cong (fun k => by rw [impl_ProgramOK.f]) ?_
  refine W.ite (fun h => no (by omega)) (fun h => ?_)
  by_cases h2 : (l.length : Int) > 50000
  · rw [decide_eq_true h2]
    exact no (by omega)
  · rw [decide_eq_false h2]
    refine W.step (fun k => by rw [impl_ProgramOK.j0]) ?_
    refine W.no Bool.false_ne_true (W.mono (iOK_loop l (by omega) hl _ 0 rfl (by omega)) (fun b hb => ?_))
    rw [hb, List.drop_zero]
    unfold progB
    rw [decide_eq_true (show 1 ≤ l.length ∧ l.length ≤ 50000 by omega), Bool.true_and]
theorem between_is (a b c : Int) : spec_l01Between.f a b c = some (decide (b ≤ a ∧ a ≤ c)) := by
  unfold spec_l01Between.f
  split
  · congr 1
    rw [decide_eq_decide]
    omega
  · congr 1
    symm
    apply decide_eq_false
    omega
theorem hasTo_is (op : Int) : spec_l17HasTo.f op = some (decide (5 ≤ op ∧ op ≤ 8)) := by
  unfold spec_l17HasTo.f
  rw [between_is]
  rfl
theorem hasNs_is (op : Int) : spec_l17HasN.f op = some (decide ((1 ≤ op ∧ op ≤ 3) ∨ op = 6 ∨ op = 8)) := by
  unfold spec_l17HasN.f
  rw [between_is]
  simp only [Option.bind_some]
  split
  · rename_i h
    have := of_decide_eq_true h
    rw [decide_eq_true (Or.inl this)]
  · rename_i h
    have h' : ¬ (1 ≤ op ∧ op ≤ 3) := fun e => h (decide_eq_true e)
    split
    · rename_i h2
      rw [decide_eq_true (Or.inr (Or.inl h2))]
    · congr 1
      rw [Bool.eq_iff_iff, beq_iff_eq, decide_eq_true_eq]
      omega
theorem goes_is (op : Int) : spec_l17Goes.f op = some (decide (op ≠ 5 ∧ op ≠ 9 ∧ op ≠ 10)) := by
  unfold spec_l17Goes.f
  split
  · congr 1
    symm
    apply decide_eq_false
    omega
  · split
    · congr 1
      symm
      apply decide_eq_false
      omega
    · congr 1
      rw [Bool.eq_iff_iff, bne_iff_ne, decide_eq_true_eq]
      omega
theorem sOK_loop (l : List S38) (h1 : 1 ≤ l.length) (hl : l.length ≤ 1048576) : ∀ (m i : Nat), l.length - i = m → i ≤ l.length →
    W (fun k => spec_ProgramOK.l0 k l (i : Int)) (· = ((l.drop i).all (fun x => insB x (l.length : Int)) && lastB l)) := by
  intro m
  induction m with
  | zero =>
    intro i hm hi
    have e : i = l.length := by omega
    subst e
    refine W.step (fun k => by rw [spec_ProgramOK.l0]) ?_
    refine W.no (by omega) ?_
    rw [rd_len l h1 hl]
    refine W.yes (by omega) (W.yes (by omega) ?_)
    rw [List.drop_length, List.all_nil, Bool.true_and]
    refine W.bindc (goes_is _) (W.pure ?_)
    unfold lastB
    rw [Bool.eq_iff_iff, Bool.not_eq_true', decide_eq_false_iff_not, decide_eq_true_eq]
    omega
  | succ m ih =>
    intro i hm hi
    have hw : wrap64 ((i : Int) + 1) = ((i + 1 : Nat) : Int) := by rw [wrap_id (by omega) (by omega)]; omega
    rw [all_drop l _ i (by omega)]
    generalize hx : rd_T38 l (i : Int) = x
    have go : InsP x (l.length : Int) → W (fun k => spec_ProgramOK.l0 k l (wrap64 ((i : Int) + 1))) (· = (insB x (l.length : Int) && (List.all (l.drop (i + 1)) (fun x => insB x (l.length : Int)) ) && lastB l)) := by
      intro h
      rw [hw]
      refine W.mono (ih (i + 1) (by omega) (by omega)) (fun b hb => ?_)
      have : insB x (l.length : Int) = true := decide_eq_true h
      rw [hb, this, Bool.true_and]
    have no : ¬ InsP x (l.length : Int) → W (fun _ => some false) (· = (insB x (l.length : Int) && (List.all (l.drop (i + 1)) (fun x => insB x (l.length : Int)) ) && lastB l)) := by
      intro h
      have : insB x (l.length : Int) = false := decide_eq_false h
      rw [this]
      exact W.pure rfl
    have j2 : ∀ b : Bool, (b = false ↔ (1 ≤ x.f0 ∧ x.f0 ≤ 10 ∧ ((5 ≤ x.f0 ∧ x.f0 ≤ 8) → (0 ≤ x.f2 ∧ x.f2 < (l.length : Int))) ∧ (¬ (5 ≤ x.f0 ∧ x.f0 ≤ 8) → x.f2 = 0))) → W (fun k => spec_ProgramOK.j2 k l (i : Int) b x.f0 x.f1 x.f2) (· = (insB x (l.length : Int) && (List.all (l.drop (i + 1)) (fun x => insB x (l.length : Int)) ) && lastB l)) := by
      intro b hb
      refine W.step (fun k => by rw [spec_ProgramOK.j2]) ?_
      cases b with
      | true =>
        refine W.yes rfl (no ?_)
        intro h
        have := hb.mpr ⟨h.1, h.2.1, h.2.2.1, h.2.2.2.1⟩
        exact absurd this (by decide)
      | false =>
        have h := hb.mp rfl
        refine W.no Bool.false_ne_true ?_
        refine W.ite (fun h2 => ?_) (fun h2 => ?_)
        · refine W.ite (fun h3 => go (by unfold InsP; omega)) (fun h3 => ?_)
          refine W.ite (fun h4 => go (by unfold InsP; omega)) (fun h4 => no (by unfold InsP; omega))
        · refine W.bindc (hasNs_is x.f0) ?_
          refine W.ite (fun h3 => ?_) (fun h3 => ?_)
          · have h3' := of_decide_eq_true h3
            refine W.bindc (between_is _ _ _) ?_
            refine W.ite (fun h4 => ?_) (fun h4 => ?_)
            · have h4' := of_decide_eq_true h4
              exact go (by unfold InsP; omega)
            · have h4' : ¬ (0 ≤ x.f1 ∧ x.f1 ≤ 1000) := fun e => h4 (decide_eq_true e)
              exact no (by unfold InsP; omega)
          · have h3' : ¬ ((1 ≤ x.f0 ∧ x.f0 ≤ 3) ∨ x.f0 = 6 ∨ x.f0 = 8) := fun e => h3 (decide_eq_true e)
            refine W.ite (fun h4 => go (by unfold InsP; omega)) (fun h4 => no (by unfold InsP; omega))
    have j1 : ∀ most : Int, (most = if 5 ≤ x.f0 ∧ x.f0 ≤ 8 then (l.length : Int) - 1 else 0) → W (fun k => spec_ProgramOK.j1 k l (i : Int) most x.f0 x.f1 x.f2) (· = (insB x (l.length : Int) && (List.all (l.drop (i + 1)) (fun x => insB x (l.length : Int)) ) && lastB l)) := by
      intro most hmost
      refine W.step (fun k => by rw [spec_ProgramOK.j1]) ?_
      refine W.bindc (between_is _ _ _) ?_
      refine W.ite (fun h3 => ?_) (fun h3 => ?_)
      · have h3' := of_decide_eq_true h3
        refine W.bindc (between_is _ _ _) (j2 _ ?_)
        rw [Bool.not_eq_false', decide_eq_true_eq]
        by_cases hj : 5 ≤ x.f0 ∧ x.f0 ≤ 8
        · rw [if_pos hj] at hmost
          omega
        · rw [if_neg hj] at hmost
          omega
      · have h3' : ¬ (1 ≤ x.f0 ∧ x.f0 ≤ 10) := fun e => h3 (decide_eq_true e)
        refine j2 true ⟨fun e => absurd e (by decide), fun e => absurd ⟨e.1, e.2.1⟩ h3'⟩
    refine W.step (fun k => by rw [spec_ProgramOK.l0]) ?_
    rw [hx, rd_len l h1 hl]
    refine W.yes (by omega) (W.yes (by omega) (W.bindc (hasTo_is x.f0) ?_))
    refine W.ite (fun h3 => ?_) (fun h3 => ?_)
    · exact j1 _ (by rw [if_pos (of_decide_eq_true h3)])
    · exact j1 _ (by rw [if_neg (fun e => h3 (decide_eq_true e))])
theorem sOK_ev (l : List S38) (hl : l.length ≤ 1048576) : W (fun k => spec_ProgramOK.f k l) (· = progB l) := by
  refine W.cong (fun k => by rw [spec_ProgramOK.f]) ?_
  refine W.bindc (between_is _ _ _) ?_
  refine W.ite (fun h => ?_) (fun h => ?_)
  · have h' := of_decide_eq_true h
    refine W.mono (sOK_loop l (by omega) hl _ 0 rfl (by omega)) (fun b hb => ?_)
    rw [hb, List.drop_zero]
    unfold progB
    rw [decide_eq_true (show 1 ≤ l.length ∧ l.length ≤ 50000 by omega), Bool.true_and]
  · refine W.pure ?_
    unfold progB
    rw [decide_eq_false (show ¬ (1 ≤ l.length ∧ l.length ≤ 50000) from fun e => h (decide_eq_true (by omega)))]
    rfl

theorem progB_can {l : List S38} (h : progB l = true) : l.length ≤ 50000 ∧ ∀ x ∈ l, InsP x (l.length : Int) := by
  unfold progB at h
  rw [Bool.and_eq_true, Bool.and_eq_true] at h
  have h1 := of_decide_eq_true h.1
  refine ⟨h1.2, fun x hx => ?_⟩
  have := List.all_eq_true.mp h.2.1 x hx
  exact of_decide_eq_true this
theorem can_of {x : S38} {n : Int} (h : InsP x n) (hn : n ≤ 50000) : Q.Can x := by
  obtain ⟨a, b, c, d, e, f, g⟩ := h
  unfold Q.Can
  omega
theorem word_is (op : Int) (h0 : 0 ≤ op) (h1 : op < 11) : spec_l17Word.f op = some (wordB op) := by
  have hl : op < (words11.length : Int) := h1
  show (some words11).bind (fun y113 => (if 0 ≤ op then (if op < (y113.length : Int) then (some (rdOf ByteArray.empty y113 op)) else (none)) else (none))) = some (wordB op)
  rw [Option.bind_some, if_pos h0, if_pos hl]
  rfl
theorem spaced_list (n : Int) (o : ByteArray) : ((o ++ (⟨#[32]⟩ : ByteArray)) ++ itoaB n).data.toList = o.data.toList ++ (spaced n).data.toList := by
  unfold spaced
  rw [append_list, append_list, append_list, List.append_assoc]
theorem line_ev (x : S38) (n : Int) (h : InsP x n) (hn : n ≤ 50000) : W (fun k => spec_l17Line.f k x.f0 x.f1 x.f2) (fun r => r.data.toList ++ [10] = lineI x) := by
  have hc := can_of h hn
  have hs1 := spaced_size x.f1 hc.2.2.1 hc.2.2.2.1
  have hs2 := spaced_size x.f2 hc.2.2.2.2.1 hc.2.2.2.2.2
  have hw := wordB_size x.f0 hc.1 hc.2.1
  have hi1 : (itoaB x.f1).size ≤ 22 := by unfold spaced at hs1; rw [ByteArray.size_append] at hs1; omega
  have hi2 : (itoaB x.f2).size ≤ 22 := by unfold spaced at hs2; rw [ByteArray.size_append] at hs2; omega
  have e32 : (⟨#[32]⟩ : ByteArray).size = 1 := rfl
  obtain ⟨a, b, c, d, e, f, g⟩ := h
  have j1 : ∀ o : ByteArray, o.size ≤ 100 → W (fun k => spec_l17Line.j1 k o x.f0 x.f1 x.f2) (fun r => r.data.toList = o.data.toList ++ (if jumpsB x.f0 then (spaced x.f2).data.toList else [])) := by
    intro o ho
    refine W.step (fun k => by rw [spec_l17Line.j1]) ?_
    refine W.bindc (hasTo_is x.f0) ?_
    refine W.ite (fun h3 => ?_) (fun h3 => ?_)
    · have h3' := of_decide_eq_true h3
      have hj : jumpsB x.f0 = true := by unfold jumpsB; simp only [Bool.or_eq_true, beq_iff_eq]; omega
      refine W.yes (by omega) (W.bind (digits_itoa x.f2 (c h3').1 (by have := (c h3').2; omega)) (fun r hr => ?_))
      rw [hr]
      refine W.yes (by omega) (W.pure ?_)
      rw [spaced_list, hj, if_pos rfl]
    · have h3' : ¬ (5 ≤ x.f0 ∧ x.f0 ≤ 8) := fun e => h3 (decide_eq_true e)
      have hj : jumpsB x.f0 = false := by
        rw [Bool.eq_false_iff]
        intro hj
        unfold jumpsB at hj
        simp only [Bool.or_eq_true, beq_iff_eq] at hj
        omega
      refine W.pure ?_
      rw [hj, if_neg Bool.false_ne_true, List.append_nil]
  have j0 : ∀ (b : Bool), b = hasNB x.f0 → W (fun k => spec_l17Line.j0 k (wordB x.f0) b x.f0 x.f1 x.f2) (fun r => r.data.toList ++ [10] = lineI x) := by
    intro b hb
    refine W.step (fun k => by rw [spec_l17Line.j0]) ?_
    refine W.ite (fun h3 => ?_) (fun h3 => ?_)
    · have hN : hasNB x.f0 = true := by rw [← hb, h3]
      have hN' : x.f0 ≤ 3 ∨ x.f0 = 6 ∨ x.f0 = 8 ∨ x.f0 = 10 := by
        unfold hasNB at hN
        simp only [Bool.or_eq_true, beq_iff_eq, decide_eq_true_eq] at hN
        omega
      refine W.yes (by omega) (W.bind (digits_itoa x.f1 (by omega) (by omega)) (fun r hr => ?_))
      rw [hr]
      refine W.yes (by omega) (W.mono (j1 _ (by rw [ByteArray.size_append, ByteArray.size_append]; omega)) (fun r hr => ?_))
      rw [hr, spaced_list]
      unfold lineI
      rw [hN, if_pos rfl]
    · have hN : hasNB x.f0 = false := by rw [← hb]; exact Bool.eq_false_iff.mpr h3
      refine W.mono (j1 _ (by omega)) (fun r hr => ?_)
      rw [hr]
      unfold lineI
      rw [hN, if_neg Bool.false_ne_true, List.append_nil]
  refine W.cong (fun k => by rw [spec_l17Line.f]) ?_
  refine W.bindc (word_is x.f0 hc.1 hc.2.1) (W.bindc (hasNs_is x.f0) ?_)
  refine W.ite (fun h3 => ?_) (fun h3 => ?_)
  · have h3' := of_decide_eq_true h3
    refine j0 true ?_
    symm
    unfold hasNB
    simp only [Bool.or_eq_true, beq_iff_eq, decide_eq_true_eq]
    omega
  · have h3' : ¬ ((1 ≤ x.f0 ∧ x.f0 ≤ 3) ∨ x.f0 = 6 ∨ x.f0 = 8) := fun e => h3 (decide_eq_true e)
    refine j0 _ ?_
    unfold hasNB
    rw [Bool.eq_iff_iff]
    simp only [Bool.or_eq_true, beq_iff_eq, decide_eq_true_eq]
    omega
theorem show_loop (l : List S38) (hl : l.length ≤ 50000) (hx : ∀ x ∈ l, InsP x (l.length : Int)) : ∀ (m i : Nat) (o : List Int), l.length - i = m → i ≤ l.length → o.map u8of = textI (l.take i) →
    W (fun k => spec_ProgramShow.l0 k l o (i : Int)) (· = showR l) := by
  have hcan : ∀ x ∈ l, Q.Can x := fun x h => can_of (hx x h) (by omega)
  intro m
  induction m with
  | zero =>
    intro i o hm hi ho
    have e : i = l.length := by omega
    subst e
    rw [List.take_length] at ho
    have hlen : o.length = (textI l).length := by rw [← ho, List.length_map]
    refine W.step (fun k => by rw [spec_ProgramShow.l0]) ?_
    refine W.no (by omega) ?_
    unfold showR
    refine W.ite (fun h => W.pure ?_) (fun h => W.pure ?_)
    · rw [if_pos (by omega)]
    · rw [if_neg (by omega), ← ho]
      rfl
  | succ m ih =>
    intro i o hm hi ho
    have hlt : i < l.length := by omega
    have hw : wrap64 ((i : Int) + 1) = ((i + 1 : Nat) : Int) := by rw [wrap_id (by omega) (by omega)]; omega
    have hlen : o.length ≤ 3000000 := by
      have h1 := textI_length (l.take i) (fun y hy => hcan y (List.mem_of_mem_take hy))
      have h2 := List.length_take_le i l
      have h3 : o.length = (textI (l.take i)).length := by rw [← ho, List.length_map]
      omega
    have hxi : InsP (rd_T38 l (i : Int)) (l.length : Int) := by rw [rd38_get l i hlt]; exact hx _ (List.getElem_mem hlt)
    have hlin := lineI_length _ (can_of hxi (by omega))
    refine W.step (fun k => by rw [spec_ProgramShow.l0]) ?_
    rw [hw]
    refine W.yes (by omega) (W.yes (by omega) (W.bind (line_ev _ _ hxi (by omega)) (fun r hr => ?_)))
    have hrl : r.size + 1 = (lineI (rd_T38 l (i : Int))).length := by rw [← hr, List.length_append]; rfl
    refine W.yes (by omega) (W.bindc rfl (W.yes (by rw [List.length_append, bytesOf_length]; omega) ?_))
    refine ih (i + 1) _ (by omega) (by omega) ?_
    rw [textI_take l i hlt, ← ho, ← hr, List.map_append, List.map_append, bytesOf_map]
    simp only [List.append_assoc]
    rfl
theorem sShow_ev (l : List S38) (hl : l.length ≤ 1048576) : W (fun k => spec_ProgramShow.f k l) (· = if progB l = true then showR l else (⟨#[]⟩, 1)) := by
  refine W.cong (fun k => by rw [spec_ProgramShow.f]) (W.bind (sOK_ev l hl) (fun b hb => ?_))
  rw [← hb]
  cases b with
  | true =>
    obtain ⟨h1, h2⟩ := progB_can hb.symm
    rw [if_pos rfl]
    exact W.yes rfl (show_loop l h1 h2 _ 0 [] rfl (by omega) rfl)
  | false =>
    rw [if_neg Bool.false_ne_true]
    exact W.no Bool.false_ne_true (W.pure rfl)

/-- the argument's instructions as the program's own -/
def conv (x : S40) : S38 := ⟨x.f0, x.f1, x.f2⟩
theorem rd40_get (l : List S40) (i : Nat) (h : i < l.length) : rd_T40 l (i : Int) = l[i] := by simp [rd_T40, List.getD, h]
theorem to_loop (l : List S40) (hl : l.length ≤ 1048576) : ∀ (m i : Nat) (o : List S38), l.length - i = m → i ≤ l.length → o.length = l.length → o.take i = (l.take i).map conv →
    W (fun k => laws_toInsS.l0 k l o (i : Int)) (· = l.map conv) := by
  intro m
  induction m with
  | zero =>
    intro i o hm hi ho ht
    have e : i = l.length := by omega
    subst e
    rw [List.take_length, ← ho, List.take_length] at ht
    refine W.step (fun k => by rw [laws_toInsS.l0]) ?_
    exact W.no (by omega) (W.pure ht)
  | succ m ih =>
    intro i o hm hi ho ht
    have hlt : i < l.length := by omega
    have hw : wrap64 ((i : Int) + 1) = ((i + 1 : Nat) : Int) := by rw [wrap_id (by omega) (by omega)]; omega
    refine W.step (fun k => by rw [laws_toInsS.l0]) ?_
    rw [hw]
    refine W.yes (by omega) (W.yes (by omega) (W.bindc rfl (W.yes (by omega) ?_)))
    refine ih (i + 1) _ (by omega) (by omega) (by rw [List.length_set]; exact ho) ?_
    have hn : ((i : Int)).toNat = i := by omega
    rw [hn, rd40_get l i hlt]
    rw [List.take_succ_eq_append_getElem (by rw [List.length_set]; omega), List.take_set_of_le (Nat.le_refl _), ht, List.getElem_set_self, List.take_succ_eq_append_getElem hlt, List.map_append]
    rfl
theorem to_ev (l : List S40) (hl : l.length ≤ 1048576) : W (fun k => laws_toInsS.f k l) (· = l.map conv) := by
  refine W.cong (fun k => by rw [laws_toInsS.f]) ?_
  refine W.yes (by omega) (W.yes (by omega) ?_)
  exact to_loop l hl _ 0 _ rfl (by omega) (by rw [List.length_replicate]; omega) rfl
theorem eq_loop (l : List S38) (hl : l.length ≤ 1048576) : ∀ (m i : Nat), l.length - i = m → i ≤ l.length → W (fun k => laws_eqInsS.l0 k l l (i : Int)) (· = true) := by
  intro m
  induction m with
  | zero =>
    intro i hm hi
    refine W.step (fun k => by rw [laws_eqInsS.l0]) ?_
    exact W.no (by omega) (W.pure rfl)
  | succ m ih =>
    intro i hm hi
    have hw : wrap64 ((i : Int) + 1) = ((i + 1 : Nat) : Int) := by rw [wrap_id (by omega) (by omega)]; omega
    refine W.step (fun k => by rw [laws_eqInsS.l0]) ?_
    rw [hw]
    refine W.yes (by omega) (W.yes (by omega) (W.yes (by omega) ?_))
    refine W.bindc (a := true) (by unfold laws_eqIns.f; rw [if_pos rfl, if_pos rfl, if_pos rfl]) ?_
    exact W.yes rfl (ih (i + 1) (by omega) (by omega))
theorem eq_ev (l : List S38) (hl : l.length ≤ 1048576) : W (fun k => laws_eqInsS.f k l l) (· = true) := by
  refine W.cong (fun k => by rw [laws_eqInsS.f]) ?_
  exact W.yes rfl (eq_loop l hl _ 0 rfl (by omega))

/-- the law, out of its walk -/
theorem showLaw (l : List S40) (A : Option Addr) (c : Nat) (w : World) (hr : Kd.C k40 w A l.length l) (hc : l.length ≤ c) (hm : l.length ≤ 9223372036854775807) (htab : Lib.TabIs Tryd.prog w "internal/strconv.uint64pow10" .u64 Lib.pow10Tab) :
    Calls Tryd.prog 3 #[.slice A l.length c] w fun e w' => e = .returned (.bool true) ∧ Below w.heap.size w w' := by
  have hz : wrap64 (1048576 - (l.length : Int)) = 1048576 - (l.length : Int) := wrap_id (by omega) (by omega)
  by_cases hbig : l.length > 1048576
  · refine Q.showLaw.far l A c w hr hc ?_
    unfold laws_szInsS.f
    rw [hz, if_pos (by omega)]
  · have hl : l.length ≤ 1048576 := by omega
    have hl2 : (l.map conv).length ≤ 1048576 := by rw [List.length_map]; exact hl
    have hsz : laws_szInsS.f l 1048576 = some (1048576 - (l.length : Int)) := by
      unfold laws_szInsS.f
      rw [hz, if_neg (by omega)]
    have e1 := to_ev l hl
    have e2 := sShow_ev (l.map conv) hl2
    have e3 := eq_ev (l.map conv) hl2
    have e4 := iOK_ev (l.map conv) hl2
    cases hp : progB (l.map conv) with
    | true =>
      rw [hp] at e2 e4
      rw [if_pos rfl] at e2
      obtain ⟨_, rfl, k1, g1⟩ := e1.total
      obtain ⟨_, rfl, k2, g2⟩ := e2.total
      obtain ⟨_, rfl, k3, g3⟩ := e3.total
      obtain ⟨_, rfl, k4, g4⟩ := e4.total
      have f1 := g1 (max k1 (max k2 (max k3 k4))) (by omega)
      have f2 := g2 (max k1 (max k2 (max k3 k4))) (by omega)
      have f3 := g3 (max k1 (max k2 (max k3 k4))) (by omega)
      have f4 := g4 (max k1 (max k2 (max k3 k4))) (by omega)
      obtain ⟨p1, p2⟩ := progB_can hp
      refine Q.showLaw.near l (l.map conv) A c w hr hc _ (by omega) hsz _ f1 (showR (l.map conv)).1 (showR (l.map conv)).2 f2 ?_ f3
      intro A' c' w' hb hr' hc'
      exact impl_ProgramShow.yes (l.map conv) A' c' w' hr' hc' ((Lib.tabBelow_of_tabIs htab).on hb).here _ f4 p1 (fun x hx => can_of (p2 x hx) (by omega))
    | false =>
      rw [hp] at e2 e4
      rw [if_neg Bool.false_ne_true] at e2
      obtain ⟨_, rfl, k1, g1⟩ := e1.total
      obtain ⟨_, rfl, k2, g2⟩ := e2.total
      obtain ⟨_, rfl, k3, g3⟩ := e3.total
      obtain ⟨_, rfl, k4, g4⟩ := e4.total
      have f1 := g1 (max k1 (max k2 (max k3 k4))) (by omega)
      have f2 := g2 (max k1 (max k2 (max k3 k4))) (by omega)
      have f3 := g3 (max k1 (max k2 (max k3 k4))) (by omega)
      have f4 := g4 (max k1 (max k2 (max k3 k4))) (by omega)
      refine Q.showLaw.near l (l.map conv) A c w hr hc _ (by omega) hsz _ f1 _ _ f2 ?_ f3
      intro A' c' w' hb hr' hc'
      exact impl_ProgramShow.no (l.map conv) A' c' w' hr' hc' _ f4
end Go.Proofs.YtakpkmkjhndpjaaDoor.Pure

/- Plain laws of lines and words: where they begin and end, and that the reference cuts them alike. -/
namespace Go.Proofs.YtakpkmkjhndpjaaDoor.Pure
open Go.RowKit Go.Proofs.YtakpkmkjhndpjaaDoor.Q Go.Proofs.YtakpkmkjhndpjaaDoorW.PrintWords Go.Proofs.YtakpkmkjhndpjaaDoorW.PrintLast

theorem index_at (c : UInt8) : ∀ (l : List UInt8) (i : Nat), l[i]? = some c → (∀ k, k < i → l[k]? ≠ some c) → Lib.indexByte l c = (i : Int)
  | [], i, h, _ => by simp at h
  | b :: l, 0, h, _ => by
    rw [Lib.indexByte.eq_2]
    simp only [List.getElem?_cons_zero, Option.some.injEq] at h
    simp [h]
  | b :: l, i + 1, h, hn => by
    rw [Lib.indexByte.eq_2]
    have h0 := hn 0 (by omega)
    simp only [List.getElem?_cons_zero, ne_eq, Option.some.injEq] at h0
    have ih := index_at c l i (by simpa using h) (fun k hk => by simpa using hn (k + 1) (by omega))
    rw [if_neg (by simpa using h0), ih, if_neg (by simp)]
    omega
theorem index_no (c : UInt8) : ∀ (l : List UInt8), (∀ k : Nat, l[k]? ≠ some c) → Lib.indexByte l c = -1
  | [], _ => Lib.indexByte.eq_1 c
  | b :: l, hn => by
    rw [Lib.indexByte.eq_2]
    have h0 := hn 0
    simp only [List.getElem?_cons_zero, ne_eq, Option.some.injEq] at h0
    have ih := index_no c l (fun k => by simpa using hn (k + 1))
    rw [if_neg (by simpa using h0), ih, if_pos (by decide)]
theorem ext_get (s : ByteArray) (a k : Nat) : (s.extract a s.size).data.toList[k]? = s.data.toList[a + k]? := by
  rw [ByteArray.data_extract, Array.toList_extract, List.extract_eq_take_drop]
  rw [List.getElem?_take]
  by_cases h : k < s.size - a
  · rw [if_pos h, List.getElem?_drop]
  · rw [if_neg h]
    symm
    rw [List.getElem?_eq_none_iff]
    show s.size ≤ a + k
    omega
theorem bt_get (s : ByteArray) (i : Nat) (c : UInt8) (h : i < s.size) : (s.data.toList[i]? = some c) ↔ bt s (i : Int) = (c.toNat : Int) := by
  have h2 : i < s.data.toList.length := h
  have e : bt s (i : Int) = ((s.data.toList[i]'h2).toNat : Int) := by
    unfold bt
    rw [dif_pos (by simpa using h)]
    rfl
  rw [e, List.getElem?_eq_getElem h2, Option.some.injEq]
  constructor
  · intro h3
    rw [h3]
  · intro h3
    exact UInt8.toNat_inj.mp (by omega)
theorem wordsOf_no (s : ByteArray) (h : ∀ k : Nat, s.data.toList[k]? ≠ some 32) : wordsOf s = [s] := by
  have hi : Lib.indexB s (⟨#[32]⟩ : ByteArray) = -1 := (Lib.index_one _ _).trans (index_no 32 _ h)
  exact Lib.splitB_miss _ _ _ _ hi
theorem wordsOf_at (s : ByteArray) (i : Nat) (h : s.data.toList[i]? = some 32) (hn : ∀ k, k < i → s.data.toList[k]? ≠ some 32) : wordsOf s = s.extract 0 i :: wordsOf (s.extract (i + 1) s.size) := by
  have hi : Lib.indexB s (⟨#[32]⟩ : ByteArray) = (i : Int) := (Lib.index_one _ _).trans (index_at 32 _ i h hn)
  unfold wordsOf
  rw [Lib.countB_hit s _ i (by decide) hi, Nat.add_comm 1, Lib.splitB_hit _ _ _ s i hi]
  rfl
theorem cut_no (s : ByteArray) (h : ∀ k : Nat, s.data.toList[k]? ≠ some 10) : cutA s = s ∧ cutB s = false := by
  have hi : Lib.indexB s (⟨#[10]⟩ : ByteArray) = -1 := (Lib.index_one _ _).trans (index_no 10 _ h)
  obtain ⟨h1, h2, h3⟩ := Lib.cutB_miss s (⟨#[10]⟩ : ByteArray) hi
  exact ⟨h1, h3⟩
theorem cut_at (s : ByteArray) (i : Nat) (h : s.data.toList[i]? = some 10) (hn : ∀ k, k < i → s.data.toList[k]? ≠ some 10) : cutA s = s.extract 0 i ∧ cutZ s = s.extract (i + 1) s.size ∧ cutB s = true := by
  have hi : Lib.indexB s (⟨#[10]⟩ : ByteArray) = (i : Int) := (Lib.index_one _ _).trans (index_at 10 _ i h hn)
  obtain ⟨h1, h2, h3⟩ := Lib.cutB_hit s (⟨#[10]⟩ : ByteArray) i hi
  exact ⟨h1, h2, h3⟩
theorem wrapS (i : Nat) (h : i ≤ 9000000000) : wrap64 ((i : Int) + 1) = ((i + 1 : Nat) : Int) := by rw [wrap_id (by omega) (by omega)]; omega

/-- the reference's words of a line -/
theorem words_loop (s : ByteArray) (hs : s.size ≤ 400000) (P : Int × Int × Int × Bool → Prop) : ∀ (m i a : Nat) (x4 : List ByteArray), s.size - i = m → a ≤ i → i ≤ s.size → (∀ k, a ≤ k → k < i → s.data.toList[k]? ≠ some 32) → x4.length ≤ i →
    W (fun k => if ((x4 ++ wordsOf (s.extract a s.size)).length : Int) > 3 then (some (0, 0, 0, false)) else spec_l17ReadLine.l1 k s (x4 ++ wordsOf (s.extract a s.size)) ([] : List Int) 1) P → W (fun k => spec_l17ReadLine.l0 k s x4 (a : Int) (i : Int)) P := by
  intro m
  induction m with
  | zero =>
    intro i a x4 hm ha hi hn hl h
    have e : i = s.size := by omega
    subst e
    have hw : wordsOf (s.extract a s.size) = [s.extract a s.size] := wordsOf_no _ (fun k => by
      rw [ext_get]
      by_cases hk : a + k < s.size
      · exact hn _ (by omega) hk
      · rw [List.getElem?_eq_none_iff.mpr (show s.size ≤ a + k by omega)]
        simp)
    rw [hw] at h
    refine W.step (fun k => by rw [spec_l17ReadLine.l0]) ?_
    refine W.yes (Int.le_refl _) (W.yes rfl (W.yes (by omega) (W.yes (by omega) (W.yes (by omega) ?_))))
    rw [wrapS _ (by omega)]
    refine W.step (fun k => by rw [spec_l17ReadLine.l0]) ?_
    exact W.no (by omega) h
  | succ m ih =>
    intro i a x4 hm ha hi hn hl h
    refine W.step (fun k => by rw [spec_l17ReadLine.l0]) ?_
    refine W.yes (by omega) (W.no (by omega) (W.yes (by omega) (W.yes (by omega) ?_)))
    rw [wrapS _ (by omega)]
    by_cases hc : bt s (i : Int) = 32
    · have h32 : s.data.toList[i]? = some 32 := (bt_get s i 32 (by omega)).mpr hc
      refine W.yes hc (W.yes (by omega) (W.yes (by omega) (W.yes (by omega) ?_)))
      refine ih (i + 1) (i + 1) _ (by omega) (by omega) (by omega) (fun k h1 h2 => by omega) (by rw [List.length_append]; simp; omega) ?_
      have hw : wordsOf (s.extract a s.size) = s.extract a i :: wordsOf (s.extract (i + 1) s.size) := by
        rw [wordsOf_at (s.extract a s.size) (i - a) (by rw [ext_get, show a + (i - a) = i by omega]; exact h32) (fun k hk => by rw [ext_get]; exact hn _ (by omega) (by omega))]
        rw [ByteArray.extract_extract, ByteArray.extract_extract, ByteArray.size_extract]
        congr 2
        · omega
        · congr 1
          · omega
          · omega
      rw [hw] at h
      rw [List.append_assoc]
      exact h
    · refine W.no hc ?_
      refine ih (i + 1) a x4 (by omega) (by omega) (by omega) (fun k h1 h2 => ?_) (by omega) h
      by_cases hk : k = i
      · subst hk
        exact fun e => hc ((bt_get s k 32 (by omega)).mp e)
      · exact hn k h1 (by omega)
end Go.Proofs.YtakpkmkjhndpjaaDoor.Pure

/- Plain laws of numbers in a line: which words are numbers, and of what. -/
namespace Go.Proofs.YtakpkmkjhndpjaaDoor.Pure
open Go.RowKit Go.Proofs.YtakpkmkjhndpjaaDoor.Q Go.Proofs.YtakpkmkjhndpjaaDoorW.PrintWords Go.Proofs.YtakpkmkjhndpjaaDoorW.PrintLast

def isD (c : UInt8) : Bool := decide (48 ≤ c.toNat ∧ c.toNat ≤ 57)
def numV (l : List UInt8) : Nat := l.foldl (fun a c => a * 10 + (c.toNat - 48)) 0
theorem numV_snoc (l : List UInt8) (c : UInt8) : numV (l ++ [c]) = numV l * 10 + (c.toNat - 48) := by simp [numV, List.foldl_append]
/-- a word is a number's: its digits, none too much -/
def isNum (l : List UInt8) : Prop := 1 ≤ l.length ∧ l.length ≤ 6 ∧ l.all isD = true ∧ (l[0]? = some 48 → l.length = 1)
instance (l : List UInt8) : Decidable (isNum l) := by unfold isNum; infer_instance
theorem numV_lt : ∀ (n : Nat) (l : List UInt8), l.length = n → l.all isD = true → numV l < 10 ^ n := by
  intro n
  induction n with
  | zero =>
    intro l h _
    rw [List.length_eq_zero_iff.mp h]
    decide
  | succ n ih =>
    intro l h hd
    rcases List.eq_nil_or_concat l with rfl | ⟨l2, c, rfl⟩
    · simp at h
    · rw [List.concat_eq_append] at *
      rw [List.all_append, Bool.and_eq_true] at hd
      have h2 : isD c = true := by simpa using hd.2
      have h3 := of_decide_eq_true h2
      have := ih l2 (by simpa using h) hd.1
      rw [numV_snoc, Nat.pow_succ]
      omega
theorem dec_of_num : ∀ (n : Nat) (l : List UInt8), l.length = n → 1 ≤ l.length → l.all isD = true → (l[0]? = some 48 → l.length = 1) → Lib.decDigits (numV l) = l := by
  intro n
  induction n with
  | zero =>
    intro l h h1 _ _
    omega
  | succ n ih =>
    intro l h h1 hd h0
    rcases List.eq_nil_or_concat l with rfl | ⟨l2, c, rfl⟩
    · simp at h
    · rw [List.concat_eq_append] at *
      rw [List.all_append, Bool.and_eq_true] at hd
      have h2 : isD c = true := by simpa using hd.2
      have h3 := of_decide_eq_true h2
      have hc : UInt8.ofNat (48 + (c.toNat - 48)) = c := by
        rw [show 48 + (c.toNat - 48) = c.toNat by omega]
        simp
      rw [numV_snoc]
      by_cases hl : l2.length = 0
      · have e := List.length_eq_zero_iff.mp hl
        subst e
        rw [show numV [] = 0 from rfl, Nat.zero_mul, Nat.zero_add, Lib.decDigits_one (by omega), hc]
        rfl
      · have hz : l2[0]? ≠ some 48 := fun e => by
          have := h0 (by rw [List.getElem?_append_left (by omega)]; exact e)
          rw [List.length_append] at this
          simp only [List.length_cons, List.length_nil] at this
          omega
        have ih2 := ih l2 (by simpa using h) (by omega) hd.1 (fun e => absurd e hz)
        have hp : 0 < numV l2 := by
          rcases Nat.eq_zero_or_pos (numV l2) with e | e
          · rw [e, Lib.decDigits_one (by omega)] at ih2
            rw [← ih2] at hz
            exact absurd rfl hz
          · exact e
        rw [Lib.decDigits.eq_1, dif_neg (by omega), show (numV l2 * 10 + (c.toNat - 48)) / 10 = numV l2 by omega, ih2, show (numV l2 * 10 + (c.toNat - 48)) % 10 = c.toNat - 48 by omega, hc]
theorem digits_good : ∀ (n : Nat), Lib.decDigits n ≠ [] ∧ (Lib.decDigits n).all isD = true ∧ numV (Lib.decDigits n) = n ∧ ((Lib.decDigits n)[0]? = some 48 → n = 0) := by
  intro n
  induction n using Nat.strongRecOn with
  | _ n ih =>
  have hd : ∀ d, d < 10 → isD (UInt8.ofNat (48 + d)) = true ∧ (UInt8.ofNat (48 + d)).toNat - 48 = d := by
    intro d hd
    have e : (UInt8.ofNat (48 + d)).toNat = 48 + d := by rw [UInt8.toNat_ofNat']; omega
    exact ⟨by unfold isD; rw [e]; exact decide_eq_true (by omega), by omega⟩
  by_cases h : n < 10
  · rw [Lib.decDigits_one h]
    have := hd n h
    generalize UInt8.ofNat (48 + n) = u at *
    refine ⟨by simp, by simp [this.1], ?_, ?_⟩
    · show 0 * 10 + (u.toNat - 48) = n
      omega
    · intro e
      simp only [List.getElem?_cons_zero, Option.some.injEq] at e
      have e2 := this.2
      rw [e] at e2
      exact e2.symm
  · obtain ⟨a, b, c, d⟩ := ih (n / 10) (by omega)
    rw [Lib.decDigits.eq_1, dif_neg h]
    have := hd (n % 10) (by omega)
    generalize UInt8.ofNat (48 + n % 10) = u at *
    refine ⟨by simp, by rw [List.all_append, b]; simp [this.1], ?_, ?_⟩
    · rw [numV_snoc, c, this.2]
      omega
    · intro e
      have hp : 0 < (Lib.decDigits (n / 10)).length := List.length_pos_iff.mpr a
      rw [List.getElem?_append_left hp] at e
      have := d e
      omega
theorem digits_len : ∀ (j n : Nat), n < 10 ^ (j + 1) → (Lib.decDigits n).length ≤ j + 1 := by
  intro j
  induction j with
  | zero =>
    intro n h
    rw [Lib.decDigits_one (by simpa using h)]
    simp
  | succ j ih =>
    intro n h
    by_cases hn : n < 10
    · rw [Lib.decDigits_one hn]
      simp
    · rw [Lib.decDigits.eq_1, dif_neg hn, List.length_append]
      have := ih (n / 10) (by rw [Nat.pow_succ] at h; omega)
      simp only [List.length_cons, List.length_nil]
      omega
theorem isNum_digits (n : Nat) (h : n < 1000000) : isNum (Lib.decDigits n) := by
  obtain ⟨a, b, c, d⟩ := digits_good n
  refine ⟨List.length_pos_iff.mpr a, digits_len 5 n (by omega), b, fun e => ?_⟩
  rw [d e, Lib.decDigits_one (by omega)]
  rfl
theorem isNum_iff (l : List UInt8) (n : Nat) : (isNum l ∧ numV l = n) ↔ (n < 1000000 ∧ l = Lib.decDigits n) := by
  constructor
  · rintro ⟨⟨h1, h2, h3, h4⟩, rfl⟩
    refine ⟨?_, (dec_of_num _ l rfl h1 h3 h4).symm⟩
    have := numV_lt _ l rfl h3
    have h5 : (10 : Nat) ^ l.length ≤ 10 ^ 6 := Nat.pow_le_pow_right (by omega) h2
    omega
  · rintro ⟨h, rfl⟩
    exact ⟨isNum_digits n h, (digits_good n).2.2.1⟩

/-- what decimal answers -/
def decR (y : ByteArray) : Int × Bool := if isNum y.data.toList then ((numV y.data.toList : Int), true) else (0, false)
theorem decR_yes (y : ByteArray) (n : Int) : decR y = (n, true) ↔ (0 ≤ n ∧ n ≤ 999999 ∧ y = itoaB n) := by
  have key : ∀ m : Nat, (isNum y.data.toList ∧ numV y.data.toList = m) ↔ (m < 1000000 ∧ y = itoaB (m : Int)) := by
    intro m
    rw [isNum_iff]
    have : (y.data.toList = Lib.decDigits m) ↔ y = itoaB (m : Int) := by
      unfold itoaB
      rw [Lib.itoa_nonneg]
      constructor
      · intro h
        rw [← h]
      · intro h
        rw [h]
    rw [this]
  unfold decR
  by_cases h : isNum y.data.toList
  · rw [if_pos h]
    constructor
    · intro e
      have e1 : n = ((numV y.data.toList : Nat) : Int) := by
        have := congrArg Prod.fst e
        exact this.symm
      have := (key (numV y.data.toList)).mp ⟨h, rfl⟩
      rw [e1]
      exact ⟨by omega, by omega, this.2⟩
    · rintro ⟨h0, h1, h2⟩
      obtain ⟨m, rfl⟩ : ∃ m : Nat, n = (m : Int) := ⟨n.toNat, by omega⟩
      have := (key m).mpr ⟨by omega, h2⟩
      rw [this.2]
  · rw [if_neg h]
    constructor
    · intro e
      exact absurd (show false = true from congrArg Prod.snd e) (by decide)
    · rintro ⟨h0, h1, h2⟩
      obtain ⟨m, rfl⟩ : ∃ m : Nat, n = (m : Int) := ⟨n.toNat, by omega⟩
      exact absurd ((key m).mpr ⟨by omega, h2⟩).1 h
end Go.Proofs.YtakpkmkjhndpjaaDoor.Pure

/- Both sides' readings of a number; the reference's reading of a line. -/
namespace Go.Proofs.YtakpkmkjhndpjaaDoor.Pure
open Go.RowKit Go.Proofs.YtakpkmkjhndpjaaDoor.Q Go.Proofs.YtakpkmkjhndpjaaDoor.R Go.Proofs.YtakpkmkjhndpjaaDoorW.PrintWords Go.Proofs.YtakpkmkjhndpjaaDoorW.PrintLast

theorem bt_el (y : ByteArray) (i : Nat) (h : i < y.size) : ∃ c : UInt8, y.data.toList.take (i + 1) = y.data.toList.take i ++ [c] ∧ bt y (i : Int) = (c.toNat : Int) ∧ y.data.toList.drop i = c :: y.data.toList.drop (i + 1) ∧ y.data.toList[i]? = some c := by
  have h2 : i < y.data.toList.length := h
  refine ⟨y.data.toList[i]'h2, by rw [List.take_add_one, List.getElem?_eq_getElem h2]; rfl, ?_, List.drop_eq_getElem_cons h2, List.getElem?_eq_getElem h2⟩
  exact (bt_get y i _ h).mp (List.getElem?_eq_getElem h2)
theorem isD_i (c : UInt8) : impl_isDigit.f (c.toNat : Int) = some (isD c) := by
  unfold impl_isDigit.f isD
  by_cases h : 48 ≤ c.toNat
  · rw [if_pos (by omega)]
    congr 1
    rw [decide_eq_decide]
    omega
  · rw [if_neg (by omega), decide_eq_false (by omega)]
theorem isD_s (c : UInt8) : spec_l01Digit.f (c.toNat : Int) = some (isD c) := isD_i c
theorem numV_step {l : List UInt8} {c : UInt8} (h : isD c = true) : ((numV (l ++ [c]) : Nat) : Int) = (numV l : Int) * 10 + ((c.toNat : Int) - 48) := by
  have := of_decide_eq_true h
  rw [numV_snoc]
  omega
theorem dec_loop (y : ByteArray) (hy : y.size ≤ 6) : ∀ (m i : Nat), y.size - i = m → i ≤ y.size → (y.data.toList.take i).all isD = true → ∀ k, m < k →
    impl_decimal.l0 k y (numV (y.data.toList.take i) : Int) (y.size : Int) (i : Int) = some (if (y.data.toList.drop i).all isD = true then ((numV y.data.toList : Int), true) else (0, false)) := by
  intro m
  induction m with
  | zero =>
    intro i hm hi hd k hk
    have e : i = y.size := by omega
    subst e
    cases k with
    | zero => omega
    | succ k =>
      rw [impl_decimal.l0, if_neg (by omega)]
      have e1 : y.data.toList.take y.size = y.data.toList := List.take_length
      have e2 : y.data.toList.drop y.size = [] := List.drop_length
      rw [e1, e2]
      rfl
  | succ m ih =>
    intro i hm hi hd k hk
    cases k with
    | zero => omega
    | succ k =>
      obtain ⟨c, h1, h2, h3, h4⟩ := bt_el y i (by omega)
      rw [impl_decimal.l0, if_pos (by omega), if_pos (by omega), if_pos (by omega), h2, isD_i, Option.bind_some, h3, List.all_cons]
      by_cases hc : isD c = true
      · rw [if_pos hc, hc, Bool.true_and]
        have hb := of_decide_eq_true hc
        have hlt := numV_lt i (y.data.toList.take i) (by rw [List.length_take]; have : y.data.toList.length = y.size := rfl; omega) hd
        have hp : (10 : Nat) ^ i ≤ 10 ^ 6 := Nat.pow_le_pow_right (by omega) (by omega)
        have e : wrap64 (wrap64 ((numV (y.data.toList.take i) : Int) * 10) + ((c.toNat : Int) - 48) % 256) = ((numV (y.data.toList.take (i + 1)) : Nat) : Int) := by
          rw [h1, numV_step hc, wrap_id (x := (numV (y.data.toList.take i) : Int) * 10) (by omega) (by omega), wrap_id (by omega) (by omega)]
          omega
        rw [e, wrapS i (by omega)]
        exact ih (i + 1) (by omega) (by omega) (by rw [h1, List.all_append, hd]; simp [hc]) k (by omega)
      · rw [if_neg hc, Bool.eq_false_iff.mpr hc, Bool.false_and]
        rfl
theorem dec_is (y : ByteArray) (k : Nat) (hk : 10 ≤ k) : impl_decimal.f k y = some (decR y) := by
  obtain ⟨k, rfl⟩ : ∃ k', k = k' + 1 := ⟨k - 1, by omega⟩
  have hl : y.data.toList.length = y.size := rfl
  have no : ¬ isNum y.data.toList → decR y = (0, false) := fun h => if_neg h
  have go : y.size ≤ 6 → 1 ≤ y.size → (y.data.toList[0]? = some 48 → y.size = 1) → impl_decimal.j0 (k + 1) y false = some (decR y) := by
    intro h6 h1 h0
    have := dec_loop y h6 _ 0 rfl (by omega) rfl k (by omega)
    rw [List.drop_zero] at this
    rw [impl_decimal.j0, if_neg (by decide)]
    refine this.trans ?_
    unfold decR
    by_cases hd : y.data.toList.all isD = true
    · rw [if_pos hd, if_pos (show isNum y.data.toList from ⟨h1, h6, hd, h0⟩)]
    · rw [if_neg hd, if_neg (fun h : isNum y.data.toList => hd h.2.2.1)]
  have not : impl_decimal.j0 (k + 1) y true = some (0, false) := by rw [impl_decimal.j0, if_pos rfl]
  unfold impl_decimal.f
  by_cases h1 : (y.size : Int) < 1
  · rw [if_pos h1, not, no (fun h => by have := h.1; omega)]
  · rw [if_neg h1]
    by_cases h6 : (y.size : Int) > 6
    · rw [if_pos h6, not, no (fun h => by have := h.2.1; omega)]
    · rw [if_neg h6]
      by_cases h2 : (y.size : Int) > 1
      · rw [if_pos h2, if_pos (by omega)]
        have e0 := bt_get y 0 48 (by omega)
        by_cases hz : bt y 0 = 48
        · rw [hz]
          rw [show ((48 : Int) == 48) = true from rfl, not, no (fun h => by have := h.2.2.2 (e0.mpr hz); omega)]
        · rw [show (bt y 0 == 48) = false from beq_eq_false_iff_ne.mpr hz]
          exact go (by omega) (by omega) (fun e => absurd (e0.mp e) hz)
      · rw [if_neg h2]
        exact go (by omega) (by omega) (fun _ => by omega)

/-- a word of digits, leading zeros or not -/
def rawB (y : ByteArray) : Bool := decide (1 ≤ y.size ∧ y.size ≤ 6) && y.data.toList.all isD
def numI (y : ByteArray) : Int := (numV y.data.toList : Int)
theorem rdOf_get (l : List ByteArray) (i : Nat) (h : i < l.length) : rdOf ByteArray.empty l (i : Int) = l[i] := by simp [rdOf, List.getD, h]
theorem num_loop (s : ByteArray) (ws : List ByteArray) (hw : ws.length ≤ 3) (nums : List Int) (hn : nums.length ≤ 3) (j : Nat) (hj : j < ws.length) (P : Int × Int × Int × Bool → Prop) (y : ByteArray) (hyy : rdOf ByteArray.empty ws (j : Int) = y) (hy : y.size ≤ 6)
    (h1 : y.data.toList.all isD = true → W (fun k => spec_l17ReadLine.l1 k s ws (nums ++ [numI y]) ((j + 1 : Nat) : Int)) P)
    (h2 : ¬ y.data.toList.all isD = true → P (0, 0, 0, false)) : ∀ (m i : Nat), y.size - i = m → i ≤ y.size → (y.data.toList.take i).all isD = true →
    W (fun k => spec_l17ReadLine.l2 k s ws nums (j : Int) (numV (y.data.toList.take i) : Int) (i : Int)) P := by
  intro m
  induction m with
  | zero =>
    intro i hm hi hd
    have e : i = y.size := by omega
    subst e
    have e1 : y.data.toList.take y.size = y.data.toList := List.take_length
    rw [e1] at hd ⊢
    refine W.step (fun k => by rw [spec_l17ReadLine.l2]) ?_
    rw [hyy]
    refine W.yes (by omega) (W.yes (by omega) (W.no (by omega) (W.yes (by omega) ?_)))
    rw [wrapS j (by omega)]
    exact h1 hd
  | succ m ih =>
    intro i hm hi hd
    obtain ⟨c, e1, e2, e3, e4⟩ := bt_el y i (by omega)
    refine W.step (fun k => by rw [spec_l17ReadLine.l2]) ?_
    rw [hyy, e2]
    refine W.yes (by omega) (W.yes (by omega) (W.yes (by omega) (W.yes (by omega) (W.bindc (isD_s c) ?_))))
    refine W.ite (fun hc => ?_) (fun hc => ?_)
    · have hb := of_decide_eq_true hc
      have hlt := numV_lt i (y.data.toList.take i) (by rw [List.length_take]; have : y.data.toList.length = y.size := rfl; omega) hd
      have hp : (10 : Nat) ^ i ≤ 10 ^ 6 := Nat.pow_le_pow_right (by omega) (by omega)
      have e : wrap64 (wrap64 (wrap64 ((numV (y.data.toList.take i) : Int) * 10) + wrap64 (c.toNat : Int)) - 48) = ((numV (y.data.toList.take (i + 1)) : Nat) : Int) := by
        rw [e1, numV_step hc, wrap_id (x := (numV (y.data.toList.take i) : Int) * 10) (by omega) (by omega), wrap_id (x := (c.toNat : Int)) (by omega) (by omega), wrap_id (x := (numV (y.data.toList.take i) : Int) * 10 + (c.toNat : Int)) (by omega) (by omega), wrap_id (by omega) (by omega)]
        omega
      rw [e, wrapS i (by omega)]
      exact ih (i + 1) (by omega) (by omega) (by rw [e1, List.all_append, hd]; simp [hc])
    · refine W.pure (h2 (fun h => hc ?_))
      rw [List.all_eq_true] at h
      exact h c (List.mem_of_getElem? e4)
theorem nums_loop (s : ByteArray) (ws : List ByteArray) (hw : ws.length ≤ 3) (P : Int × Int × Int × Bool → Prop) : ∀ (m j : Nat) (nums : List Int), ws.length - j = m → j ≤ ws.length → nums.length ≤ j →
    ((ws.drop j).all rawB = true → W (fun k => spec_l17ReadLine.l3 k s (nums ++ (ws.drop j).map numI) 1) P) → (¬ (ws.drop j).all rawB = true → P (0, 0, 0, false)) →
    W (fun k => spec_l17ReadLine.l1 k s ws nums (j : Int)) P := by
  intro m
  induction m with
  | zero =>
    intro j nums hm hj hn h1 h2
    have e : j = ws.length := by omega
    subst e
    rw [List.drop_length] at h1
    refine W.step (fun k => by rw [spec_l17ReadLine.l1]) ?_
    refine W.no (by omega) ?_
    have := h1 rfl
    rwa [List.map_nil, List.append_nil] at this
  | succ m ih =>
    intro j nums hm hj hn h1 h2
    have hlt : j < ws.length := by omega
    have ey := rdOf_get ws j hlt
    have ed : ws.drop j = ws[j] :: ws.drop (j + 1) := List.drop_eq_getElem_cons hlt
    rw [ed] at h1 h2
    refine W.step (fun k => by rw [spec_l17ReadLine.l1]) ?_
    refine W.yes (by omega) (W.yes (by omega) (W.bindc (between_is _ _ _) ?_))
    refine W.ite (fun hc => ?_) (fun hc => W.pure (h2 (fun h => hc ?_)))
    · have hc' := of_decide_eq_true hc
      refine num_loop s ws hw nums (by omega) j hlt P _ rfl (by omega) (fun hd => ?_) (fun hd => h2 (fun h => hd ?_)) _ 0 rfl (by omega) rfl
      · refine ih (j + 1) _ (by omega) (by omega) (by rw [List.length_append]; simp; omega) (fun ha => ?_) (fun ha => h2 (fun h => ha ?_))
        · have := h1 (by
            rw [List.all_cons, ha, Bool.and_true]
            unfold rawB
            rw [ey] at hd hc'
            rw [hd, Bool.and_true]
            exact decide_eq_true (by omega))
          rw [List.map_cons] at this
          rw [ey, List.append_assoc]
          exact this
        · rw [List.all_cons, Bool.and_eq_true] at h
          exact h.2
      · rw [List.all_cons, Bool.and_eq_true] at h
        have h3 := h.1
        unfold rawB at h3
        rw [Bool.and_eq_true] at h3
        rw [ey]
        exact h3.2
    · rw [List.all_cons, Bool.and_eq_true] at h
      have h3 := h.1
      unfold rawB at h3
      rw [Bool.and_eq_true] at h3
      have := of_decide_eq_true h3.1
      rw [ey]
      exact decide_eq_true (by omega)
end Go.Proofs.YtakpkmkjhndpjaaDoor.Pure

/- A line's words and its instruction: both sides read alike. -/
namespace Go.Proofs.YtakpkmkjhndpjaaDoor.Pure
open Go.RowKit Go.Proofs.YtakpkmkjhndpjaaDoor.Q Go.Proofs.YtakpkmkjhndpjaaDoor.R Go.Proofs.YtakpkmkjhndpjaaDoorW.PrintWords Go.Proofs.YtakpkmkjhndpjaaDoorW.PrintLast

/-- an instruction that a line can tell -/
def InsR (x : S38) : Prop := 1 ≤ x.f0 ∧ x.f0 ≤ 10 ∧ 0 ≤ x.f1 ∧ x.f1 ≤ 999999 ∧ 0 ≤ x.f2 ∧ x.f2 ≤ 999999
def lineP (x : S38) : List UInt8 := ((wordB x.f0).data.toList ++ (if hasNB x.f0 then (spaced x.f1).data.toList else [])) ++ (if jumpsB x.f0 then (spaced x.f2).data.toList else [])
def linesW (x : S38) : List ByteArray := (wordB x.f0 :: (if hasNB x.f0 then [itoaB x.f1] else [])) ++ (if jumpsB x.f0 then [itoaB x.f2] else [])
theorem canR {x : S38} (h : InsR x) : Q.Can x := by
  obtain ⟨a, b, c, d, e, f⟩ := h
  unfold Q.Can
  omega
theorem lineR_ev (x : S38) (h : InsR x) : W (fun k => spec_l17Line.f k x.f0 x.f1 x.f2) (fun r => r.data.toList = lineP x) := by
  have hc := canR h
  have hs1 := spaced_size x.f1 hc.2.2.1 hc.2.2.2.1
  have hs2 := spaced_size x.f2 hc.2.2.2.2.1 hc.2.2.2.2.2
  have hw := wordB_size x.f0 hc.1 hc.2.1
  have hi1 : (itoaB x.f1).size ≤ 22 := by unfold spaced at hs1; rw [ByteArray.size_append] at hs1; omega
  have hi2 : (itoaB x.f2).size ≤ 22 := by unfold spaced at hs2; rw [ByteArray.size_append] at hs2; omega
  have e32 : (⟨#[32]⟩ : ByteArray).size = 1 := rfl
  obtain ⟨a, b, c1, c2, c3, c4⟩ := h
  have j1 : ∀ o : ByteArray, o.size ≤ 100 → W (fun k => spec_l17Line.j1 k o x.f0 x.f1 x.f2) (fun r => r.data.toList = o.data.toList ++ (if jumpsB x.f0 then (spaced x.f2).data.toList else [])) := by
    intro o ho
    refine W.step (fun k => by rw [spec_l17Line.j1]) ?_
    refine W.bindc (hasTo_is x.f0) ?_
    refine W.ite (fun h3 => ?_) (fun h3 => ?_)
    · have h3' := of_decide_eq_true h3
      have hj : jumpsB x.f0 = true := by unfold jumpsB; simp only [Bool.or_eq_true, beq_iff_eq]; omega
      refine W.yes (by omega) (W.bind (digits_itoa x.f2 (by omega) (by omega)) (fun r hr => ?_))
      rw [hr]
      refine W.yes (by omega) (W.pure ?_)
      rw [spaced_list, hj, if_pos rfl]
    · have h3' : ¬ (5 ≤ x.f0 ∧ x.f0 ≤ 8) := fun e => h3 (decide_eq_true e)
      have hj : jumpsB x.f0 = false := by
        rw [Bool.eq_false_iff]
        intro hj
        unfold jumpsB at hj
        simp only [Bool.or_eq_true, beq_iff_eq] at hj
        omega
      refine W.pure ?_
      rw [hj, if_neg Bool.false_ne_true, List.append_nil]
  have j0 : ∀ (b : Bool), b = hasNB x.f0 → W (fun k => spec_l17Line.j0 k (wordB x.f0) b x.f0 x.f1 x.f2) (fun r => r.data.toList = lineP x) := by
    intro b hb
    refine W.step (fun k => by rw [spec_l17Line.j0]) ?_
    refine W.ite (fun h3 => ?_) (fun h3 => ?_)
    · have hN : hasNB x.f0 = true := by rw [← hb, h3]
      have hN' : x.f0 ≤ 3 ∨ x.f0 = 6 ∨ x.f0 = 8 ∨ x.f0 = 10 := by
        unfold hasNB at hN
        simp only [Bool.or_eq_true, beq_iff_eq, decide_eq_true_eq] at hN
        omega
      refine W.yes (by omega) (W.bind (digits_itoa x.f1 (by omega) (by omega)) (fun r hr => ?_))
      rw [hr]
      refine W.yes (by omega) (W.mono (j1 _ (by rw [ByteArray.size_append, ByteArray.size_append]; omega)) (fun r hr => ?_))
      rw [hr, spaced_list]
      unfold lineP
      rw [hN, if_pos rfl]
    · have hN : hasNB x.f0 = false := by rw [← hb]; exact Bool.eq_false_iff.mpr h3
      refine W.mono (j1 _ (by omega)) (fun r hr => ?_)
      rw [hr]
      unfold lineP
      rw [hN, if_neg Bool.false_ne_true, List.append_nil]
  refine W.cong (fun k => by rw [spec_l17Line.f]) ?_
  refine W.bindc (word_is x.f0 hc.1 hc.2.1) (W.bindc (hasNs_is x.f0) ?_)
  refine W.ite (fun h3 => ?_) (fun h3 => ?_)
  · have h3' := of_decide_eq_true h3
    refine j0 true ?_
    symm
    unfold hasNB
    simp only [Bool.or_eq_true, beq_iff_eq, decide_eq_true_eq]
    omega
  · have h3' : ¬ ((1 ≤ x.f0 ∧ x.f0 ≤ 3) ∨ x.f0 = 6 ∨ x.f0 = 8) := fun e => h3 (decide_eq_true e)
    refine j0 _ ?_
    unfold hasNB
    rw [Bool.eq_iff_iff]
    simp only [Bool.or_eq_true, beq_iff_eq, decide_eq_true_eq]
    omega

def clean (l : List UInt8) : Prop := ∀ k : Nat, l[k]? ≠ some 32
theorem wordsOf_list (a b : List UInt8) (ha : clean a) : wordsOf ⟨(a ++ 32 :: b).toArray⟩ = ⟨a.toArray⟩ :: wordsOf ⟨b.toArray⟩ := by
  have hs : (⟨(a ++ 32 :: b).toArray⟩ : ByteArray).size = a.length + 1 + b.length := by
    show (a ++ 32 :: b).toArray.size = _
    simp
    omega
  rw [wordsOf_at _ a.length (by simp) (fun k hk => by
    rw [show (⟨(a ++ 32 :: b).toArray⟩ : ByteArray).data.toList = a ++ 32 :: b from rfl, List.getElem?_append_left hk]
    exact ha k)]
  congr 1
  · rw [ByteArray.ext_iff, ByteArray.data_extract]
    apply Array.toList_inj.mp
    rw [Array.toList_extract, List.extract_eq_take_drop]
    simp
  · congr 1
    rw [ByteArray.ext_iff, ByteArray.data_extract]
    apply Array.toList_inj.mp
    rw [Array.toList_extract, List.extract_eq_take_drop, hs]
    simp
theorem wordsOf_one (a : List UInt8) (ha : clean a) : wordsOf ⟨a.toArray⟩ = [⟨a.toArray⟩] := wordsOf_no _ ha
def joinW : List ByteArray → List UInt8
  | [] => []
  | [a] => a.data.toList
  | a :: b :: l => a.data.toList ++ 32 :: joinW (b :: l)
theorem wordsOf_ne (s : ByteArray) : ∃ a l, wordsOf s = a :: l := by
  have := wordsOf_length s
  cases h : wordsOf s with
  | nil => rw [h] at this; simp at this
  | cons a l => exact ⟨a, l, rfl⟩
theorem join_words : ∀ (n : Nat) (s : ByteArray), s.size = n → joinW (wordsOf s) = s.data.toList := by
  intro n
  induction n using Nat.strongRecOn with
  | _ n ih =>
  intro s hs
  by_cases h : ∀ k : Nat, s.data.toList[k]? ≠ some 32
  · rw [wordsOf_no s h]
    rfl
  · have hex : ∃ i : Nat, s.data.toList[i]? = some 32 ∧ ∀ k, k < i → s.data.toList[k]? ≠ some 32 := by
      rw [Classical.not_forall] at h
      obtain ⟨k, hk⟩ := h
      replace hk := Classical.not_not.mp hk
      clear ih
      induction k using Nat.strongRecOn with
      | _ k ih =>
      by_cases h2 : ∀ j, j < k → s.data.toList[j]? ≠ some 32
      · exact ⟨k, hk, h2⟩
      · rw [Classical.not_forall] at h2
        obtain ⟨j, hj⟩ := h2
        rw [Classical.not_imp] at hj
        exact ih j hj.1 (Classical.not_not.mp hj.2)
    obtain ⟨i, hi, hn⟩ := hex
    have hlt : i < s.size := by
      have := (List.getElem?_eq_some_iff.mp hi).1
      exact this
    rw [wordsOf_at s i hi hn]
    obtain ⟨a, l, e⟩ := wordsOf_ne (s.extract (i + 1) s.size)
    have := ih (s.extract (i + 1) s.size).size (by rw [ByteArray.size_extract]; omega) _ rfl
    rw [e] at this ⊢
    show (s.extract 0 i).data.toList ++ 32 :: joinW (a :: l) = _
    rw [this, ByteArray.data_extract, ByteArray.data_extract, Array.toList_extract, Array.toList_extract, List.extract_eq_take_drop, List.extract_eq_take_drop]
    have h32 : s.data.toList[i]'hlt = 32 := by
      have := (List.getElem?_eq_some_iff.mp hi).2
      exact this
    have hd : s.data.toList.drop i = 32 :: s.data.toList.drop (i + 1) := by
      rw [← h32]
      exact List.drop_eq_getElem_cons hlt
    have ht : (s.data.toList.drop (i + 1)).take (s.size - (i + 1)) = s.data.toList.drop (i + 1) := List.take_of_length_le (by rw [List.length_drop]; exact Nat.le_refl _)
    rw [ht, ← hd, List.drop_zero, Nat.sub_zero, List.take_append_drop]

theorem clean_digits (n : Nat) : clean (Lib.decDigits n) := by
  intro k e
  have := List.all_eq_true.mp (digits_good n).2.1 32 (List.mem_of_getElem? e)
  exact absurd this (by decide)
theorem clean_itoa (n : Int) (h : 0 ≤ n) : clean (itoaB n).data.toList := by
  obtain ⟨m, rfl⟩ : ∃ m : Nat, n = (m : Int) := ⟨n.toNat, by omega⟩
  show clean (Lib.itoa (m : Int))
  rw [Lib.itoa_nonneg]
  exact clean_digits m
theorem clean_word (op : Int) (h0 : 1 ≤ op) (h1 : op ≤ 10) : clean (wordB op).data.toList := by
  have h : op = 1 ∨ op = 2 ∨ op = 3 ∨ op = 4 ∨ op = 5 ∨ op = 6 ∨ op = 7 ∨ op = 8 ∨ op = 9 ∨ op = 10 := by omega
  intro k e
  have := List.mem_of_getElem? e
  rcases h with rfl | rfl | rfl | rfl | rfl | rfl | rfl | rfl | rfl | rfl <;> exact absurd this (by decide)
theorem spaced_is (n : Int) : (spaced n).data.toList = 32 :: (itoaB n).data.toList := by
  unfold spaced
  rw [append_list]
  rfl
theorem back (b : ByteArray) : (⟨b.data.toList.toArray⟩ : ByteArray) = b := rfl
theorem words_line (x : S38) (h : InsR x) : wordsOf ⟨(lineP x).toArray⟩ = linesW x := by
  obtain ⟨a, b, c1, c2, c3, c4⟩ := h
  have hw := clean_word x.f0 a b
  have h1 := clean_itoa x.f1 c1
  have h2 := clean_itoa x.f2 c3
  unfold lineP linesW
  rw [spaced_is, spaced_is]
  cases hN : hasNB x.f0 <;> cases hJ : jumpsB x.f0
  · simp only [Bool.false_eq_true, if_false, List.append_nil]
    rw [wordsOf_one _ hw, back]
  · simp only [Bool.false_eq_true, if_false, if_true, List.append_nil]
    rw [wordsOf_list _ _ hw, wordsOf_one _ h2, back, back]
    rfl
  · simp only [Bool.false_eq_true, if_false, if_true, List.append_nil]
    rw [wordsOf_list _ _ hw, wordsOf_one _ h1, back, back]
  · simp only [if_true]
    rw [List.append_assoc, List.cons_append, wordsOf_list _ _ hw, wordsOf_list _ _ h1, wordsOf_one _ h2, back, back, back]
    rfl
theorem join_line (x : S38) : joinW (linesW x) = lineP x := by
  unfold lineP linesW
  rw [spaced_is, spaced_is]
  cases hN : hasNB x.f0 <;> cases hJ : jumpsB x.f0 <;> simp [joinW]
theorem line_iff (s : ByteArray) (x : S38) (h : InsR x) : (lineP x = s.data.toList) ↔ wordsOf s = linesW x := by
  constructor
  · intro e
    rw [← words_line x h, e]
  · intro e
    rw [← join_line x, ← e, join_words _ s rfl]
end Go.Proofs.YtakpkmkjhndpjaaDoor.Pure

/- A line is read alike by both sides. -/
namespace Go.Proofs.YtakpkmkjhndpjaaDoor.Pure
set_option linter.unusedSimpArgs false
open Go.RowKit Go.Proofs.YtakpkmkjhndpjaaDoor.Q Go.Proofs.YtakpkmkjhndpjaaDoor.R Go.Proofs.YtakpkmkjhndpjaaDoorW.PrintWords Go.Proofs.YtakpkmkjhndpjaaDoorW.PrintLast

theorem toList_inj {a b : ByteArray} (h : a.toList = b.toList) : a = b := by
  rw [ByteArray.toList_eq, ByteArray.toList_eq] at h
  exact ByteArray.ext_iff.mpr (Array.toList_inj.mp h)
theorem opU_some (y : ByteArray) : ∀ n : Nat, n ≤ 11 → opU y n = 0 ∨ ∃ op : Nat, 0 < op ∧ op < n ∧ opU y n = (op : Int) ∧ wordB (op : Int) = y := by
  intro n
  induction n with
  | zero => exact fun _ => .inl rfl
  | succ n ih =>
    intro hn
    rw [opU]
    by_cases h : 0 < n ∧ (rdOf ByteArray.empty words11 (n : Int)).toList = y.toList
    · rw [if_pos h]
      exact .inr ⟨n, h.1, by omega, rfl, toList_inj h.2⟩
    · rw [if_neg h]
      rcases ih (by omega) with e | ⟨op, a, b, c, d⟩
      · exact .inl e
      · exact .inr ⟨op, a, by omega, c, d⟩
theorem opU_word (op : Int) (h0 : 1 ≤ op) (h1 : op ≤ 10) : opU (wordB op) 11 = op := by
  have h : op = 1 ∨ op = 2 ∨ op = 3 ∨ op = 4 ∨ op = 5 ∨ op = 6 ∨ op = 7 ∨ op = 8 ∨ op = 9 ∨ op = 10 := by omega
  rcases h with rfl | rfl | rfl | rfl | rfl | rfl | rfl | rfl | rfl | rfl <;> (simp only [opU, ByteArray.toList_eq]; decide)
theorem takeB_yes {ys : List ByteArray} (h : Q.takeB decR ys = true) : ∃ y l, ys = y :: l ∧ y = itoaB (takeV decR ys) ∧ 0 ≤ takeV decR ys ∧ takeV decR ys ≤ 999999 := by
  cases ys with
  | nil => simp [Q.takeB] at h
  | cons y l =>
    have h2 : (decR y).2 = true := h
    have e : takeV decR (y :: l) = (decR y).1 := rfl
    have := (decR_yes y (decR y).1).mp (by rw [← h2])
    rw [e]
    exact ⟨y, l, rfl, this.2.2, this.1, this.2.1⟩
theorem take_itoa (n : Int) (h0 : 0 ≤ n) (h1 : n ≤ 999999) (l : List ByteArray) : takeV decR (itoaB n :: l) = n ∧ Q.takeB decR (itoaB n :: l) = true := by
  have := (decR_yes (itoaB n) n).mpr ⟨h0, h1, rfl⟩
  have e1 : takeV decR (itoaB n :: l) = (decR (itoaB n)).1 := rfl
  have e2 : Q.takeB decR (itoaB n :: l) = (decR (itoaB n)).2 := rfl
  rw [e1, e2, this]
  exact ⟨rfl, rfl⟩
theorem len_zero {l : List ByteArray} (h : ((l.length : Int) == 0) = true) : l = [] := by
  have := beq_iff_eq.mp h
  exact List.length_eq_zero_iff.mp (by omega)

theorem readR_yes (ws : List ByteArray) (hw : ∃ a l, ws = a :: l) (h : (readR decR ws).2.2.2 = true) : InsR (insOf (readR decR ws)) ∧ ws = linesW (insOf (readR decR ws)) := by
  obtain ⟨a, l, rfl⟩ := hw
  have e0 : rdOf ByteArray.empty (a :: l) 0 = a := rfl
  unfold insOf
  unfold readR at h ⊢
  rw [e0] at h ⊢
  rw [show (a :: l).drop 1 = l from rfl] at h ⊢
  rcases opU_some a 11 (Nat.le_refl _) with e | ⟨op, h1, h2, e, hwd⟩
  · rw [e, if_pos rfl] at h
    exact absurd h (by decide)
  · rw [e] at h ⊢
    rw [if_neg (by omega)] at h ⊢
    unfold InsR linesW
    cases hN : hasNB (op : Int) <;> cases hJ : jumpsB (op : Int)
    · rw [hN, hJ] at h
      simp only [Bool.false_eq_true, if_false, if_true, Bool.true_and, Bool.and_false] at h ⊢
      rw [len_zero h]
      simp only [hN, hJ, Bool.false_eq_true, if_false, List.append_nil]
      exact ⟨⟨by omega, by omega, by omega, by omega, by omega, by omega⟩, by rw [hwd]⟩
    · rw [hN, hJ] at h
      simp only [Bool.false_eq_true, if_false, if_true, Bool.true_and, Bool.and_true] at h ⊢
      rw [Bool.and_eq_true] at h
      obtain ⟨y, m, rfl, hy, h3, h4⟩ := takeB_yes h.1
      have hm := len_zero h.2
      have hm2 : m = [] := hm
      subst hm2
      simp only [hN, hJ, Bool.false_eq_true, if_false, if_true]
      exact ⟨⟨by omega, by omega, by omega, by omega, h3, h4⟩, by rw [hwd, ← hy]; rfl⟩
    · rw [hN, hJ] at h
      simp only [Bool.false_eq_true, if_false, if_true, Bool.true_and, Bool.and_false] at h ⊢
      rw [Bool.and_eq_true] at h
      obtain ⟨y, m, rfl, hy, h3, h4⟩ := takeB_yes h.1
      have hm := len_zero h.2
      have hm2 : m = [] := hm
      subst hm2
      simp only [hN, hJ, Bool.false_eq_true, if_false, if_true]
      exact ⟨⟨by omega, by omega, h3, h4, by omega, by omega⟩, by rw [hwd, ← hy]; rfl⟩
    · rw [hN, hJ] at h
      simp only [if_true, Bool.and_true] at h ⊢
      by_cases hb : Q.takeB decR l = true
      · rw [if_pos hb] at h
        rw [if_pos hb]
        rw [Bool.and_eq_true] at h
        obtain ⟨y, m, rfl, hy, h3, h4⟩ := takeB_yes hb
        rw [show (y :: m).drop 1 = m from rfl] at h ⊢
        obtain ⟨y2, m2, rfl, hy2, h5, h6⟩ := takeB_yes h.1
        have hm := len_zero h.2
        have hm2 : m2 = [] := hm
        subst hm2
        simp only [hN, hJ, if_true]
        exact ⟨⟨by omega, by omega, h3, h4, h5, h6⟩, by rw [hwd, ← hy, ← hy2]; rfl⟩
      · rw [if_neg hb] at h
        rw [Bool.eq_false_iff.mpr hb] at h
        exact absurd h (by simp)
theorem readR_line (x : S38) (h : InsR x) (h1 : hasNB x.f0 = false → x.f1 = 0) (h2 : jumpsB x.f0 = false → x.f2 = 0) : readR decR (linesW x) = (x.f0, x.f1, x.f2, true) := by
  obtain ⟨a, b, c1, c2, c3, c4⟩ := h
  have ho := opU_word x.f0 a b
  unfold readR linesW
  have e0 : ∀ l m : List ByteArray, rdOf ByteArray.empty ((wordB x.f0 :: l) ++ m) 0 = wordB x.f0 := fun _ _ => rfl
  rw [e0, ho, if_neg (by omega)]
  cases hN : hasNB x.f0 <;> cases hJ : jumpsB x.f0
  · rw [h1 hN, h2 hJ]
    rfl
  · have t := take_itoa x.f2 c3 c4 []
    simp only [Bool.false_eq_true, if_false, if_true, Bool.true_and]
    rw [show ([wordB x.f0] ++ [itoaB x.f2]).drop 1 = [itoaB x.f2] from rfl, t.1, t.2, h1 hN]
    rfl
  · have t := take_itoa x.f1 c1 c2 []
    simp only [Bool.false_eq_true, if_false, if_true, Bool.and_false, List.append_nil]
    rw [show ([wordB x.f0, itoaB x.f1]).drop 1 = [itoaB x.f1] from rfl, t.1, t.2, h2 hJ]
    rfl
  · have t := take_itoa x.f1 c1 c2 [itoaB x.f2]
    have t2 := take_itoa x.f2 c3 c4 []
    simp only [if_true, Bool.and_true]
    rw [show ([wordB x.f0, itoaB x.f1] ++ [itoaB x.f2]).drop 1 = [itoaB x.f1, itoaB x.f2] from rfl, t.1, t.2, if_pos rfl]
    rw [show [itoaB x.f1, itoaB x.f2].drop 1 = [itoaB x.f2] from rfl, t2.1, t2.2]
    rfl

def nv (op : Int) (nums : List Int) : Int := if 0 < nums.length ∧ hasNB op = true then rd nums 0 else 0
def kv (op : Int) (nums : List Int) : Nat := if 0 < nums.length ∧ hasNB op = true then 1 else 0
def tv (op : Int) (nums : List Int) : Int := if kv op nums < nums.length ∧ jumpsB op = true then rd nums (kv op nums : Int) else 0
def xop (op : Int) (nums : List Int) : S38 := ⟨op, nv op nums, tv op nums⟩
theorem rd_in {nums : List Int} (h : ∀ x ∈ nums, 0 ≤ x ∧ x ≤ 999999) (i : Int) : 0 ≤ rd nums i ∧ rd nums i ≤ 999999 := by
  unfold rd
  by_cases hi : i.toNat < nums.length
  · have e : nums.getD i.toNat 0 = nums[i.toNat] := by simp [List.getD, hi]
    rw [e]
    exact h _ (List.getElem_mem hi)
  · have e : nums.getD i.toNat 0 = 0 := by simp [List.getD, Nat.le_of_not_lt hi]
    rw [e]
    omega
theorem xop_in {nums : List Int} (h : ∀ x ∈ nums, 0 ≤ x ∧ x ≤ 999999) (op : Int) (h0 : 1 ≤ op) (h1 : op ≤ 10) : InsR (xop op nums) := by
  have a : 0 ≤ nv op nums ∧ nv op nums ≤ 999999 := by
    unfold nv
    split
    · exact rd_in h 0
    · omega
  have b : 0 ≤ tv op nums ∧ tv op nums ≤ 999999 := by
    unfold tv
    split
    · exact rd_in h _
    · omega
  exact ⟨h0, h1, a.1, a.2, b.1, b.2⟩
theorem hasNB_s (op : Int) (h0 : 1 ≤ op) : (decide ((1 ≤ op ∧ op ≤ 3) ∨ op = 6 ∨ op = 8) = true → hasNB op = true) ∧ (¬ decide ((1 ≤ op ∧ op ≤ 3) ∨ op = 6 ∨ op = 8) = true → (op == 10) = hasNB op) := by
  constructor
  · intro h
    have := of_decide_eq_true h
    unfold hasNB
    simp only [Bool.or_eq_true, beq_iff_eq, decide_eq_true_eq]
    omega
  · intro h
    have : ¬ ((1 ≤ op ∧ op ≤ 3) ∨ op = 6 ∨ op = 8) := fun e => h (decide_eq_true e)
    unfold hasNB
    rw [Bool.eq_iff_iff]
    simp only [Bool.or_eq_true, beq_iff_eq, decide_eq_true_eq]
    omega
theorem jumpsB_s (op : Int) : jumpsB op = decide (5 ≤ op ∧ op ≤ 8) := by
  unfold jumpsB
  rw [Bool.eq_iff_iff]
  simp only [Bool.or_eq_true, beq_iff_eq, decide_eq_true_eq]
  omega
theorem op_loop (s : ByteArray) (nums : List Int) (hnums : ∀ x ∈ nums, 0 ≤ x ∧ x ≤ 999999) (P : Int × Int × Int × Bool → Prop)
    (hy : ∀ op : Int, 1 ≤ op → op ≤ 10 → lineP (xop op nums) = s.data.toList → P (op, nv op nums, tv op nums, true))
    (hn : (∀ op : Int, 1 ≤ op → op ≤ 10 → lineP (xop op nums) ≠ s.data.toList) → P (0, 0, 0, false)) : ∀ (m : Nat) (op : Nat), 11 - op = m → 1 ≤ op → op ≤ 11 →
    (∀ o : Int, 1 ≤ o → o < op → lineP (xop o nums) ≠ s.data.toList) → W (fun k => spec_l17ReadLine.l3 k s nums (op : Int)) P := by
  intro m
  induction m with
  | zero =>
    intro op hm h1 h2 hb
    have e : op = 11 := by omega
    subst e
    refine W.step (fun k => by rw [spec_l17ReadLine.l3]) ?_
    exact W.no (by omega) (W.pure (hn (fun o a b => hb o a (by omega))))
  | succ m ih =>
    intro op hm h1 h2 hb
    have hx := xop_in hnums (op : Int) (by omega) (by omega)
    have tail : ∀ t : ByteArray, t.data.toList = lineP (xop (op : Int) nums) → W (fun k => if t.toList = s.toList then (some ((op : Int), nv op nums, tv op nums, true)) else spec_l17ReadLine.l3 k s nums (wrap64 ((op : Int) + 1))) P := by
      intro t ht
      refine W.ite (fun h => W.pure (hy op (by omega) (by omega) ?_)) (fun h => ?_)
      · rw [← ht, toList_inj h]
      · rw [wrapS op (by omega)]
        refine ih (op + 1) (by omega) (by omega) (by omega) (fun o a b e => ?_)
        by_cases ho : o = (op : Int)
        · subst ho
          refine h ?_
          rw [ByteArray.toList_eq, ByteArray.toList_eq, ht, e]
        · exact hb o a (by omega) e
    have j6 : ∀ b : Bool, (b = true ↔ (kv op nums < nums.length ∧ jumpsB op = true)) → W (fun k => spec_l17ReadLine.j6 k s nums (op : Int) (kv op nums : Int) b (op : Int) (nv op nums) 0) P := by
      intro b hbb
      refine W.step (fun k => by rw [spec_l17ReadLine.j6]) ?_
      refine W.ite (fun h => ?_) (fun h => ?_)
      · have h' := hbb.mp h
        have e : tv op nums = rd nums (kv op nums : Int) := if_pos h'
        rw [← e]
        exact W.yes (by omega) (W.yes (by omega) (W.bind (lineR_ev _ hx) (fun t ht => tail t ht)))
      · have e : tv op nums = 0 := if_neg (fun h' => h (hbb.mpr h'))
        have l := lineR_ev _ hx
        have t2 := tail
        unfold xop at l
        rw [e] at l t2
        exact W.bind l (fun t ht => t2 t (by rw [ht]; unfold xop; rw [e]))
    have j5 : W (fun k => spec_l17ReadLine.j5 k s nums (op : Int) (kv op nums : Int) (op : Int) (nv op nums) 0) P := by
      refine W.step (fun k => by rw [spec_l17ReadLine.j5]) ?_
      refine W.ite (fun h => ?_) (fun h => ?_)
      · refine W.bindc (hasTo_is op) (j6 _ ?_)
        rw [← jumpsB_s]
        exact ⟨fun e => ⟨by omega, e⟩, fun e => e.2⟩
      · refine j6 _ ⟨fun e => absurd e (by decide), fun e => absurd e.1 (by omega)⟩
    have j4 : ∀ b : Bool, (b = true ↔ (0 < nums.length ∧ hasNB op = true)) → W (fun k => spec_l17ReadLine.j4 k s nums (op : Int) 0 b (op : Int) 0 0) P := by
      intro b hbb
      refine W.step (fun k => by rw [spec_l17ReadLine.j4]) ?_
      refine W.ite (fun h => ?_) (fun h => ?_)
      · have h' := hbb.mp h
        have e1 : nv op nums = rd nums 0 := if_pos h'
        have e2 : kv op nums = 1 := if_pos h'
        rw [e1, e2] at j5
        refine W.yes (by omega) (W.yes (by omega) ?_)
        rw [show wrap64 (0 + 1) = ((1 : Nat) : Int) from wrapS 0 (by omega)]
        exact j5
      · have e1 : nv op nums = 0 := if_neg (fun h' => h (hbb.mpr h'))
        have e2 : kv op nums = 0 := if_neg (fun h' => h (hbb.mpr h'))
        rw [e1, e2] at j5
        exact j5
    have hs := hasNB_s (op : Int) (by omega)
    refine W.step (fun k => by rw [spec_l17ReadLine.l3]) ?_
    refine W.yes (by omega) (W.ite (fun h => ?_) (fun h => ?_))
    · refine W.bindc (hasNs_is op) (W.ite (fun h3 => ?_) (fun h3 => ?_))
      · exact j4 true ⟨fun _ => ⟨by omega, hs.1 h3⟩, fun _ => rfl⟩
      · rw [hs.2 h3]
        exact j4 _ ⟨fun e => ⟨by omega, e⟩, fun e => e.2⟩
    · exact j4 false ⟨fun e => absurd e (by decide), fun e => absurd e.1 (by omega)⟩
theorem numI_itoa (n : Int) (h0 : 0 ≤ n) (h1 : n ≤ 999999) : numI (itoaB n) = n ∧ rawB (itoaB n) = true := by
  obtain ⟨m, rfl⟩ : ∃ m : Nat, n = (m : Int) := ⟨n.toNat, by omega⟩
  have e : (itoaB (m : Int)).data.toList = Lib.decDigits m := Lib.itoa_nonneg m
  have g := isNum_digits m (by omega)
  unfold numI rawB
  rw [e, (digits_good m).2.2.1]
  refine ⟨rfl, ?_⟩
  rw [g.2.2.1, Bool.and_true]
  refine decide_eq_true ?_
  rw [← size_list, e]
  exact ⟨g.1, g.2.1⟩
theorem xop_lines {x : S38} (h : InsR x) : linesW (xop x.f0 (((linesW x).drop 1).map numI)) = linesW x := by
  obtain ⟨a, b, c1, c2, c3, c4⟩ := h
  have n1 := (numI_itoa x.f1 c1 c2).1
  have n2 := (numI_itoa x.f2 c3 c4).1
  unfold linesW xop
  cases hN : hasNB x.f0 <;> cases hJ : jumpsB x.f0
  · simp [hN, hJ]
  · simp [hN, hJ, tv, kv, rd, n2]
  · simp [hN, hJ, nv, rd, n1]
  · simp [hN, hJ, nv, tv, kv, rd, n1, n2]
theorem raw_lines {x : S38} (h : InsR x) : ((linesW x).drop 1).all rawB = true := by
  obtain ⟨a, b, c1, c2, c3, c4⟩ := h
  have n1 := (numI_itoa x.f1 c1 c2).2
  have n2 := (numI_itoa x.f2 c3 c4).2
  unfold linesW
  cases hN : hasNB x.f0 <;> cases hJ : jumpsB x.f0 <;> simp [n1, n2]
theorem len_lines (x : S38) : (linesW x).length ≤ 3 := by
  unfold linesW
  cases hN : hasNB x.f0 <;> cases hJ : jumpsB x.f0 <;> simp
theorem ext_all (s : ByteArray) : s.extract 0 s.size = s := by
  rw [ByteArray.ext_iff, ByteArray.data_extract]
  exact Array.extract_size
/-- the reference's answer is the program's -/
def SameR (ws : List ByteArray) (r : Int × Int × Int × Bool) : Prop := r.2.2.2 = (readR decR ws).2.2.2 ∧ (r.2.2.2 = true → r = readR decR ws)
theorem readLine_ev (s : ByteArray) (hs : s.size ≤ 400000) : W (fun k => spec_l17ReadLine.f k s) (SameR (wordsOf s)) := by
  refine W.cong (fun k => by rw [spec_l17ReadLine.f]) ?_
  have no : (¬ ∃ x, InsR x ∧ wordsOf s = linesW x) → SameR (wordsOf s) (0, 0, 0, false) := by
    intro h
    refine ⟨?_, fun e => absurd (show false = true from e) (by decide)⟩
    symm
    rw [Bool.eq_false_iff]
    intro e
    exact h ⟨_, readR_yes _ (wordsOf_ne s) e⟩
  refine words_loop s hs (SameR (wordsOf s)) s.size 0 0 [] rfl (by omega) (by omega) (fun k _ h => by omega) (by simp) ?_
  rw [ext_all, List.nil_append]
  have hl1 : 1 ≤ (wordsOf s).length := by rw [wordsOf_length]; omega
  refine W.ite (fun h => W.pure (no ?_)) (fun h => ?_)
  · rintro ⟨x, _, e⟩
    have := len_lines x
    rw [← e] at this
    omega
  · refine nums_loop s (wordsOf s) (by omega) (SameR (wordsOf s)) _ 1 [] rfl hl1 (by simp) (fun ha => ?_) (fun ha => no ?_)
    · rw [List.nil_append]
      have hnums : ∀ x ∈ ((wordsOf s).drop 1).map numI, 0 ≤ x ∧ x ≤ 999999 := by
        intro x hx
        rw [List.mem_map] at hx
        obtain ⟨y, hy, rfl⟩ := hx
        have := List.all_eq_true.mp ha y hy
        unfold rawB at this
        rw [Bool.and_eq_true] at this
        have h3 := of_decide_eq_true this.1
        have h4 := numV_lt _ y.data.toList rfl this.2
        have h5 : (10 : Nat) ^ y.data.toList.length ≤ 10 ^ 6 := Nat.pow_le_pow_right (by omega) h3.2
        unfold numI
        omega
      refine op_loop s _ hnums (SameR (wordsOf s)) (fun op a b e => ?_) (fun e => no ?_) _ 1 rfl (by omega) (by omega) (fun o a b => by omega)
      · have hx := xop_in hnums op a b
        have e2 := (line_iff s _ hx).mp e
        have e3 := readR_line _ hx (fun h => if_neg (fun h2 => by rw [show hasNB (xop op (((wordsOf s).drop 1).map numI)).f0 = hasNB op from rfl] at h; rw [h] at h2; exact absurd h2.2 (by decide))) (fun h => if_neg (fun h2 => by rw [show jumpsB (xop op (((wordsOf s).drop 1).map numI)).f0 = jumpsB op from rfl] at h; rw [h] at h2; exact absurd h2.2 (by decide)))
        rw [← e2] at e3
        unfold SameR
        rw [e3]
        exact ⟨rfl, fun _ => rfl⟩
      · rintro ⟨x, hx, e2⟩
        refine e x.f0 hx.1 hx.2.1 ?_
        have e4 := xop_lines hx
        rw [← e2] at e4
        rw [line_iff s _ (xop_in hnums x.f0 hx.1 hx.2.1), e4]
    · rintro ⟨x, hx, e⟩
      have := raw_lines hx
      rw [← e] at this
      exact ha this
end Go.Proofs.YtakpkmkjhndpjaaDoor.Pure

/- Written by a program of this session (wip/mp.sh) out of the translation: plain functions that answer as the functions of the given program do, and the proofs that they do; no condition of its own. -/
namespace Go.Proofs.YtakpkmkjhndpjaaDoor.Q
open Go.RowKit Go.Proofs.YtakpkmkjhndpjaaDoorW.PrintWords Go.Proofs.YtakpkmkjhndpjaaDoorW.PrintLast Go.Proofs.YtakpkmkjhndpjaaDoorW.PrintMore
attribute [local go_sem] max2_int min2_int max_two min_two max_three min_three max_four min_four   -- for this text's walks alone
set_option linter.unusedVariables false
set_option linter.unusedSimpArgs false

/-! ### laws_markInsS: function 12 -/
def laws_markInsS.l0 : Nat → List (S38) → Int → Int → Option (Int × (List (S38)))
  | 0, _, _, _ => none
  | k + 1, x0, x1, x5 => if x5 < (x0.length : Int) then (if 0 ≤ x5 then ((some (x0.set (x5 : Int).toNat (⟨x1, (rd_T38 x0 x5).f1, (rd_T38 x0 x5).f2⟩ : S38) : List (S38))).bind fun y256 => ((some (y256.set (x5 : Int).toNat (⟨(rd_T38 y256 x5).f0, wrap64 (x1 + 1), (rd_T38 y256 x5).f2⟩ : S38) : List (S38))).bind fun y257 => (laws_markInsS.l0 k (y257.set (x5 : Int).toNat (⟨(rd_T38 y257 x5).f0, (rd_T38 y257 x5).f1, wrap64 ((wrap64 (x1 + 1)) + 1)⟩ : S38)) (wrap64 ((wrap64 ((wrap64 (x1 + 1)) + 1)) + 1)) (wrap64 (x5 + 1))))) else (none)) else (some (x1, x0))
def laws_markInsS.f (k : Nat) (l0 : List (S38)) (a1 : Int) : Option (Int × (List (S38))) := laws_markInsS.l0 k l0 a1 0
theorem laws_markInsS.mono_l : ∀ k, (∀ y0 y1 y2, LeO (laws_markInsS.l0 k y0 y1 y2) (laws_markInsS.l0 (k + 1) y0 y1 y2))
  | 0 => fun _ _ _ r h => by simp [laws_markInsS.l0] at h
  | k + 1 => by
    have ih0 := laws_markInsS.mono_l k
    · intro y0 y1 y2
      unfold laws_markInsS.l0
      repeat' first
      | (with_reducible exact ih0 _ _ _)
      | (with_reducible exact LeO.refl _)
      | (with_reducible exact LeO.none _)
      | (with_reducible refine LeO.ite ?_ ?_)
      | (with_reducible refine LeO.bind ?_ (fun _ => ?_))
      | exact ih0 _ _ _
      | exact LeO.none _
      | refine LeO.ite ?_ ?_
      | refine LeO.bind ?_ (fun _ => ?_)
theorem laws_markInsS.mono : ∀ a0 a1 k, LeO (laws_markInsS.f k a0 a1) (laws_markInsS.f (k + 1) a0 a1) := by
  intro a0 a1 k
  have ih0 := laws_markInsS.mono_l k
  unfold laws_markInsS.f
  repeat' first
      | (with_reducible exact ih0 _ _ _)
      | (with_reducible exact LeO.refl _)
      | (with_reducible exact LeO.none _)
      | (with_reducible refine LeO.ite ?_ ?_)
      | (with_reducible refine LeO.bind ?_ (fun _ => ?_))
      | exact ih0 _ _ _
      | exact LeO.none _
      | refine LeO.ite ?_ ?_
      | refine LeO.bind ?_ (fun _ => ?_)
set_option maxHeartbeats 8000000 in
set_option maxRecDepth 100000 in
theorem laws_markInsS.calls (k : Nat) (P0_ : Nat → Prop) (u9000_ : Value) (l0 : List (S38)) (a1 : Int) (r1 : Int) (r2 : List (S38)) (w0 w : World) (hB : Below w0.heap.size w0 w) (ho0 : Kd.R k38 38 w w0.heap.size P0_ u9000_ l0) (h : laws_markInsS.f k l0 a1 = some (r1, r2)) :
    Calls Tryd.prog 12 #[u9000_, .int .i64 a1] w fun e w' => e = .returned (.int .i64 r1) ∧ Kd.R k38 38 w' w0.heap.size (fun k_ => (P0_ k_ ∨ w.heap.size ≤ k_)) u9000_ r2 ∧ Below w0.heap.size w0 w' ∧ Kept w w' (fun k_ => P0_ k_) := by
  have HO0 := Aside0.mk (show Kd.R k38 38 w w0.heap.size (fun k_ => (P0_ k_ ∨ w.heap.size ≤ k_)) u9000_ l0 from Kd.R_mono ho0 (fun k_ hk => (.inl hk)))
  have HK := Aside0.mk (Kept.refl w (fun k_ => P0_ k_))
  have HW0 := Aside0.mk hB.size
  have HB := Aside0.mk hB
  clear hB
  have H : (laws_markInsS.l0 k l0 a1 0) = some (r1, r2) := h
  clear h
  have H' := Aside0.mk H
  clear H
  go_enter Tryd.func12, Tryd.ntmps12
  go_wp2
  go_loopg [1, 5] k (fun kq v1 v5 w' => ∃ (x0_1 : List (S38)) (x1_1 : Int) (x5_1 : Int), v1 = .int .i64 x1_1 ∧ v5 = .int .i64 x5_1 ∧ Aside0 (laws_markInsS.l0 kq x0_1 x1_1 x5_1 = some (r1, r2)) ∧ Aside0 (kq ≤ k) ∧ Aside0 (Kd.R k38 38 w' w0.heap.size (fun k_ => (P0_ k_ ∨ w.heap.size ≤ k_)) u9000_ x0_1) ∧ Aside0 (Kept w w' (fun k_ => P0_ k_)) ∧ Aside0 (Below w0.heap.size w0 w'))
  case atStart => exact ⟨(l0), (a1), (0), (by first | rfl | (simp; done) | (simp [*]; done) | (simp [bne]; done) | (simp [bne, *]; done)), (by first | rfl | (simp; done) | (simp [*]; done) | (simp [bne]; done) | (simp [bne, *]; done)), H', ⟨Nat.le_refl _⟩, ⟨by (with_reducible repeat (first | apply Kd.R_alloc | apply Kd.R_drewN | apply Kd.R_drew)); exact HO0.out⟩, ⟨by repeat (first | (with_reducible first | exact HK.out | apply Kept.alloc | apply Kept.drewN | apply Kept.drew) | exact HK.out)⟩, ⟨by repeat (first | (with_reducible first | exact HB.out | apply below_alloc | apply pw_below_drewN | apply below_drew1) | exact HB.out)⟩⟩
  case round =>
    clear H'
    try clear c1
    try clear p2
    obtain ⟨x0_1, x1_1, x5_1, rfl, rfl, HA, HK1, HO_0, HK, HB⟩ := hrel
    cases gk with
    | zero => exact absurd HA.out (by simp [laws_markInsS.l0])
    | succ k1 =>
      have H := HA.out
      clear HA
      simp only [laws_markInsS.l0] at H
      by_cases c3 : x5_1 < (x0_1.length : Int)
      · rw [if_pos c3] at H
        have c3b0 : decide (x5_1 < (x0_1.length : Int)) = true := decide_eq_true c3
        clear c3
        by_cases c4 : 0 ≤ x5_1
        · rw [if_pos c4] at H
          have c4b0 : decide (0 ≤ x5_1) = true := decide_eq_true c4
          clear c4
          obtain ⟨y256, hy256⟩ : ∃ y_ : List (S38), y_ = (x0_1.set (x5_1 : Int).toNat (⟨x1_1, (rd_T38 x0_1 x5_1).f1, (rd_T38 x0_1 x5_1).f2⟩ : S38)) := ⟨_, rfl⟩
          replace H : ((some (y256.set (x5_1 : Int).toNat (⟨(rd_T38 y256 x5_1).f0, wrap64 (x1_1 + 1), (rd_T38 y256 x5_1).f2⟩ : S38) : List (S38))).bind fun y257 => (laws_markInsS.l0 k1 (y257.set (x5_1 : Int).toNat (⟨(rd_T38 y257 x5_1).f0, (rd_T38 y257 x5_1).f1, wrap64 ((wrap64 (x1_1 + 1)) + 1)⟩ : S38)) (wrap64 ((wrap64 ((wrap64 (x1_1 + 1)) + 1)) + 1)) (wrap64 (x5_1 + 1)))) = some (r1, r2) := by first | (rw [hy256]; with_reducible exact H) | (have H2_ := (Option.bind_some _ _).symm.trans H; rw [hy256]; with_reducible exact H2_) | (have H2_ := (Option.bind_some _ _).symm.trans H; with_reducible exact H2_) | with_reducible exact H | (rw [hy256]; exact H) | exact H
          have Ny256 := Aside0.mk hy256
          clear hy256
          obtain ⟨y257, hy257⟩ : ∃ y_ : List (S38), y_ = (y256.set (x5_1 : Int).toNat (⟨(rd_T38 y256 x5_1).f0, wrap64 (x1_1 + 1), (rd_T38 y256 x5_1).f2⟩ : S38)) := ⟨_, rfl⟩
          replace H : (laws_markInsS.l0 k1 (y257.set (x5_1 : Int).toNat (⟨(rd_T38 y257 x5_1).f0, (rd_T38 y257 x5_1).f1, wrap64 ((wrap64 (x1_1 + 1)) + 1)⟩ : S38)) (wrap64 ((wrap64 ((wrap64 (x1_1 + 1)) + 1)) + 1)) (wrap64 (x5_1 + 1))) = some (r1, r2) := by first | (rw [hy257]; with_reducible exact H) | (have H2_ := (Option.bind_some _ _).symm.trans H; rw [hy257]; with_reducible exact H2_) | (have H2_ := (Option.bind_some _ _).symm.trans H; with_reducible exact H2_) | with_reducible exact H | (rw [hy257]; exact H) | exact H
          have Ny257 := Aside0.mk hy257
          clear hy257
          obtain ⟨y258, hy258⟩ : ∃ y_ : List (S38), y_ = (y257.set (x5_1 : Int).toNat (⟨(rd_T38 y257 x5_1).f0, (rd_T38 y257 x5_1).f1, wrap64 ((wrap64 (x1_1 + 1)) + 1)⟩ : S38)) := ⟨_, rfl⟩
          replace H : (laws_markInsS.l0 k1 y258 (wrap64 ((wrap64 ((wrap64 (x1_1 + 1)) + 1)) + 1)) (wrap64 (x5_1 + 1))) = some (r1, r2) := by first | (rw [hy258]; with_reducible exact H) | (have H2_ := (Option.bind_some _ _).symm.trans H; rw [hy258]; with_reducible exact H2_) | (have H2_ := (Option.bind_some _ _).symm.trans H; with_reducible exact H2_) | with_reducible exact H | (rw [hy258]; exact H) | exact H
          have Ny258 := Aside0.mk hy258
          clear hy258
          have H' := Aside0.mk H
          clear H
          obtain ⟨Ao8, co8, eo8⟩ := Kd.R_slice HO_0.out
          subst eo8
          have p5 : 0 ≤ (x5_1 : Int) := of_decide_eq_true (by first | (with_reducible assumption) | assumption)
          have q5 : (x5_1 : Int) < ((x0_1.length : Int) : Int) := of_decide_eq_true (by first | (with_reducible assumption) | assumption)
          obtain ⟨go5, co5, eo5, gb5, gl5, cl5, HG5⟩ := Kd.R_form HO_0.out (by omega)
          (first | cases eo5 | (injection eo5 with ea_ en_ ec_; (first | subst ea_ | (injection ea_ with ea_; subst ea_)); subst ec_; clear en_))
          have GB5 := Aside0.mk gb5
          have GG5 := Aside0.mk HG5
          clear gb5 gl5 HG5
          have HMgo5 := Aside0.mk (show (P0_ go5 ∨ w.heap.size ≤ go5) from (HO_0.out.1 _ rfl))
          obtain ⟨ce5, hcl5, hM5, hcc5, hfr5⟩ := Kd.R_elem HO_0.out z38 (x5_1 : Int) p5 q5
          obtain rfl := k38_openM hM5
          have hx5_0 : wr.cell? ⟨go5, (x5_1 : Int).toNat * 3, none⟩ = some (.int .i64 ((rd_T38 x0_1 x5_1).f0)) := hcc5 0 _ rfl
          have hx5_1 : wr.cell? ⟨go5, (x5_1 : Int).toNat * 3 + 1, none⟩ = some (.int .i64 ((rd_T38 x0_1 x5_1).f1)) := hcc5 1 _ rfl
          have hx5_2 : wr.cell? ⟨go5, (x5_1 : Int).toNat * 3 + 2, none⟩ = some (.int .i64 ((rd_T38 x0_1 x5_1).f2)) := hcc5 2 _ rfl
          have hf5_0 : wr.frozen? ⟨go5, (x5_1 : Int).toNat * 3, none⟩ = false := hfr5 0
          have hf5_1 : wr.frozen? ⟨go5, (x5_1 : Int).toNat * 3 + 1, none⟩ = false := hfr5 1
          have hf5_2 : wr.frozen? ⟨go5, (x5_1 : Int).toNat * 3 + 2, none⟩ = false := hfr5 2
          clear hcl5 hcc5 hfr5 hM5
          replace p5 := eq_true p5
          replace q5 := eq_true q5
          have HX9 := Aside0.mk (show Kd.R k38 38 wr w0.heap.size (fun k_ => (P0_ k_ ∨ w.heap.size ≤ k_)) (.slice (some ⟨go5, 0, none⟩) x0_1.length co8) x0_1 from (by (with_reducible repeat (first | apply Kd.R_alloc | apply Kd.R_drewN | apply Kd.R_drew)); exact HO_0.out))
          obtain ⟨ce9, hcl9, hM9, hcc9, hfr9⟩ := Kd.R_elem HX9.out z38 (x5_1 : Int) (of_decide_eq_true (by first | (with_reducible assumption) | assumption)) (by have h_ : (x5_1 : Int) < ((x0_1.length : Int) : Int) := of_decide_eq_true (by first | (with_reducible assumption) | assumption); first | exact h_ | (have e_ := (Kd.R_reads' HO_0.out).1; omega) | simpa using h_)
          obtain rfl := k38_openM hM9
          have HP9 := Kd.R_seg HX9.out (x5_1 : Int) (of_decide_eq_true (by first | (with_reducible assumption) | assumption)) (by have h_ : (x5_1 : Int) < ((x0_1.length : Int) : Int) := of_decide_eq_true (by first | (with_reducible assumption) | assumption); first | exact h_ | (have e_ := (Kd.R_reads' HO_0.out).1; omega) | simpa using h_) (seg := [.int .i64 x1_1]) (j := 0) hcl9 hcc9 (show 1 ≤ 3 from by decide) (x' := (⟨x1_1, (rd_T38 x0_1 x5_1).f1, (rd_T38 x0_1 x5_1).f2⟩ : S38)) (k38_mkM _ _ _ (⟨x1_1, (rd_T38 x0_1 x5_1).f1, (rd_T38 x0_1 x5_1).f2⟩ : S38) ) (fun _ hk => hk)
          have hx9_0 := hcc9 0 _ rfl
          (try simp only [show (k38).sz = 3 from rfl, Nat.mul_one, Nat.add_zero] at hx9_0)
          have hf9_0 := hfr9 0
          (try simp only [show (k38).sz = 3 from rfl, Nat.mul_one, Nat.add_zero] at hf9_0)
          clear hcl9 hcc9 hfr9 hM9
          go_wp2_with (first | ((with_reducible refine gate_store (t := 3) (p := 16) rfl ?_); refine store_event (t := 3) (p := 16) (v := ?vo_w10) (w1 := (wr.setCell ⟨go5, (x5_1 : Int).toNat * 3, none⟩ (.int .i64 x1_1))) ?hg ?ho ?hn ?hr ?_; (case ho => rfl); (case hg => rfl); (case hn => rfl); (case hr => first | (go_simp; done) | (go_simp; rfl)); intro w10 hw; have hg : wr.grownBy w10 (some go5) := (by rw [hw]; exact HP9.2); have hp_ : Kd.R k38 38 w10 w0.heap.size (fun k_ => (P0_ k_ ∨ w.heap.size ≤ k_)) (.slice (some ⟨go5, 0, none⟩) x0_1.length co8) y256 := (by rw [hw, Ny256.out]; exact HP9.1); clear HP9; have n0_ := Aside0.mk (hp_); have n1_ := Aside0.mk ((by rw [hw]; exact below_set (HB.out) GB5.out : Below w0.heap.size w0 w10)); have n2_ := Aside0.mk (Kept.of_grown (S := (fun k_ => P0_ k_)) hg (by repeat (first | (with_reducible first | exact HK.out | apply Kept.alloc | apply Kept.drewN | apply Kept.drew) | exact HK.out)) (fun k_ e_ => (HO_0.out.1 k_ e_))); clear HO_0; clear HB; clear HK; have HO_0 := n0_; have HB := n1_; have HK := n2_; clear n0_ n1_ n2_; clear hg hw hp_; have p6 : 0 ≤ (x5_1 : Int) := of_decide_eq_true (by first | (with_reducible assumption) | assumption); have q6 : (x5_1 : Int) < ((x0_1.length : Int) : Int) := of_decide_eq_true (by first | (with_reducible assumption) | assumption); obtain ⟨ce6, hcl6, hM6, hcc6, hfr6⟩ := Kd.R_elem HO_0.out z38 (x5_1 : Int) p6 q6; obtain rfl := k38_openM hM6; have hx6_0 : w10.cell? ⟨go5, (x5_1 : Int).toNat * 3, none⟩ = some (.int .i64 ((rd_T38 y256 x5_1).f0)) := hcc6 0 _ rfl; have hx6_1 : w10.cell? ⟨go5, (x5_1 : Int).toNat * 3 + 1, none⟩ = some (.int .i64 ((rd_T38 y256 x5_1).f1)) := hcc6 1 _ rfl; have hx6_2 : w10.cell? ⟨go5, (x5_1 : Int).toNat * 3 + 2, none⟩ = some (.int .i64 ((rd_T38 y256 x5_1).f2)) := hcc6 2 _ rfl; have hf6_0 : w10.frozen? ⟨go5, (x5_1 : Int).toNat * 3, none⟩ = false := hfr6 0; have hf6_1 : w10.frozen? ⟨go5, (x5_1 : Int).toNat * 3 + 1, none⟩ = false := hfr6 1; have hf6_2 : w10.frozen? ⟨go5, (x5_1 : Int).toNat * 3 + 2, none⟩ = false := hfr6 2; clear hcl6 hcc6 hfr6 hM6; replace p6 := eq_true p6; replace q6 := eq_true q6; have HX11 := Aside0.mk (show Kd.R k38 38 w10 w0.heap.size (fun k_ => (P0_ k_ ∨ w.heap.size ≤ k_)) (.slice (some ⟨go5, 0, none⟩) x0_1.length co8) y256 from (by (with_reducible repeat (first | apply Kd.R_alloc | apply Kd.R_drewN | apply Kd.R_drew)); exact HO_0.out)); obtain ⟨ce11, hcl11, hM11, hcc11, hfr11⟩ := Kd.R_elem HX11.out z38 (x5_1 : Int) (of_decide_eq_true (by first | (with_reducible assumption) | assumption)) (by have h_ : (x5_1 : Int) < ((x0_1.length : Int) : Int) := of_decide_eq_true (by first | (with_reducible assumption) | assumption); first | exact h_ | (have e_ := (Kd.R_reads' HO_0.out).1; omega) | simpa using h_); obtain rfl := k38_openM hM11; have HP11 := Kd.R_seg HX11.out (x5_1 : Int) (of_decide_eq_true (by first | (with_reducible assumption) | assumption)) (by have h_ : (x5_1 : Int) < ((x0_1.length : Int) : Int) := of_decide_eq_true (by first | (with_reducible assumption) | assumption); first | exact h_ | (have e_ := (Kd.R_reads' HO_0.out).1; omega) | simpa using h_) (seg := [.int .i64 (wrap64 (x1_1 + 1))]) (j := 1) hcl11 hcc11 (show 2 ≤ 3 from by decide) (x' := (⟨(rd_T38 y256 x5_1).f0, wrap64 (x1_1 + 1), (rd_T38 y256 x5_1).f2⟩ : S38)) (k38_mkM _ _ _ (⟨(rd_T38 y256 x5_1).f0, wrap64 (x1_1 + 1), (rd_T38 y256 x5_1).f2⟩ : S38) ) (fun _ hk => hk); have hx11_1 := hcc11 1 _ rfl; (try simp only [show (k38).sz = 3 from rfl, Nat.mul_one, Nat.add_zero] at hx11_1); have hf11_1 := hfr11 1; (try simp only [show (k38).sz = 3 from rfl, Nat.mul_one, Nat.add_zero] at hf11_1); clear hcl11 hcc11 hfr11 hM11) | ((with_reducible refine gate_store (t := 3) (p := 23) rfl ?_); refine store_event (t := 3) (p := 23) (v := ?vo_w12) (w1 := (w10.setCell ⟨go5, (x5_1 : Int).toNat * 3 + 1, none⟩ (.int .i64 (wrap64 (x1_1 + 1))))) ?hg ?ho ?hn ?hr ?_; (case ho => rfl); (case hg => rfl); (case hn => rfl); (case hr => first | (go_simp; done) | (go_simp; rfl)); intro w12 hw; have hg : w10.grownBy w12 (some go5) := (by rw [hw]; exact HP11.2); have hp_ : Kd.R k38 38 w12 w0.heap.size (fun k_ => (P0_ k_ ∨ w.heap.size ≤ k_)) (.slice (some ⟨go5, 0, none⟩) x0_1.length co8) y257 := (by rw [hw, Ny257.out]; exact HP11.1); clear HP11; have n0_ := Aside0.mk (hp_); have n1_ := Aside0.mk ((by rw [hw]; exact below_set (HB.out) GB5.out : Below w0.heap.size w0 w12)); have n2_ := Aside0.mk (Kept.of_grown (S := (fun k_ => P0_ k_)) hg (by repeat (first | (with_reducible first | exact HK.out | apply Kept.alloc | apply Kept.drewN | apply Kept.drew) | exact HK.out)) (fun k_ e_ => (HO_0.out.1 k_ e_))); clear HO_0; clear HB; clear HK; have HO_0 := n0_; have HB := n1_; have HK := n2_; clear n0_ n1_ n2_; clear hg hw hp_; have p7 : 0 ≤ (x5_1 : Int) := of_decide_eq_true (by first | (with_reducible assumption) | assumption); have q7 : (x5_1 : Int) < ((x0_1.length : Int) : Int) := of_decide_eq_true (by first | (with_reducible assumption) | assumption); obtain ⟨ce7, hcl7, hM7, hcc7, hfr7⟩ := Kd.R_elem HO_0.out z38 (x5_1 : Int) p7 q7; obtain rfl := k38_openM hM7; have hx7_0 : w12.cell? ⟨go5, (x5_1 : Int).toNat * 3, none⟩ = some (.int .i64 ((rd_T38 y257 x5_1).f0)) := hcc7 0 _ rfl; have hx7_1 : w12.cell? ⟨go5, (x5_1 : Int).toNat * 3 + 1, none⟩ = some (.int .i64 ((rd_T38 y257 x5_1).f1)) := hcc7 1 _ rfl; have hx7_2 : w12.cell? ⟨go5, (x5_1 : Int).toNat * 3 + 2, none⟩ = some (.int .i64 ((rd_T38 y257 x5_1).f2)) := hcc7 2 _ rfl; have hf7_0 : w12.frozen? ⟨go5, (x5_1 : Int).toNat * 3, none⟩ = false := hfr7 0; have hf7_1 : w12.frozen? ⟨go5, (x5_1 : Int).toNat * 3 + 1, none⟩ = false := hfr7 1; have hf7_2 : w12.frozen? ⟨go5, (x5_1 : Int).toNat * 3 + 2, none⟩ = false := hfr7 2; clear hcl7 hcc7 hfr7 hM7; replace p7 := eq_true p7; replace q7 := eq_true q7; have HX13 := Aside0.mk (show Kd.R k38 38 w12 w0.heap.size (fun k_ => (P0_ k_ ∨ w.heap.size ≤ k_)) (.slice (some ⟨go5, 0, none⟩) x0_1.length co8) y257 from (by (with_reducible repeat (first | apply Kd.R_alloc | apply Kd.R_drewN | apply Kd.R_drew)); exact HO_0.out)); obtain ⟨ce13, hcl13, hM13, hcc13, hfr13⟩ := Kd.R_elem HX13.out z38 (x5_1 : Int) (of_decide_eq_true (by first | (with_reducible assumption) | assumption)) (by have h_ : (x5_1 : Int) < ((x0_1.length : Int) : Int) := of_decide_eq_true (by first | (with_reducible assumption) | assumption); first | exact h_ | (have e_ := (Kd.R_reads' HO_0.out).1; omega) | simpa using h_); obtain rfl := k38_openM hM13; have HP13 := Kd.R_seg HX13.out (x5_1 : Int) (of_decide_eq_true (by first | (with_reducible assumption) | assumption)) (by have h_ : (x5_1 : Int) < ((x0_1.length : Int) : Int) := of_decide_eq_true (by first | (with_reducible assumption) | assumption); first | exact h_ | (have e_ := (Kd.R_reads' HO_0.out).1; omega) | simpa using h_) (seg := [.int .i64 (wrap64 ((wrap64 (x1_1 + 1)) + 1))]) (j := 2) hcl13 hcc13 (show 3 ≤ 3 from by decide) (x' := (⟨(rd_T38 y257 x5_1).f0, (rd_T38 y257 x5_1).f1, wrap64 ((wrap64 (x1_1 + 1)) + 1)⟩ : S38)) (k38_mkM _ _ _ (⟨(rd_T38 y257 x5_1).f0, (rd_T38 y257 x5_1).f1, wrap64 ((wrap64 (x1_1 + 1)) + 1)⟩ : S38) ) (fun _ hk => hk); have hx13_2 := hcc13 2 _ rfl; (try simp only [show (k38).sz = 3 from rfl, Nat.mul_one, Nat.add_zero] at hx13_2); have hf13_2 := hfr13 2; (try simp only [show (k38).sz = 3 from rfl, Nat.mul_one, Nat.add_zero] at hf13_2); clear hcl13 hcc13 hfr13 hM13) | ((with_reducible refine gate_store (t := 3) (p := 30) rfl ?_); refine store_event (t := 3) (p := 30) (v := ?vo_w14) (w1 := (w12.setCell ⟨go5, (x5_1 : Int).toNat * 3 + 2, none⟩ (.int .i64 (wrap64 ((wrap64 (x1_1 + 1)) + 1))))) ?hg ?ho ?hn ?hr ?_; (case ho => rfl); (case hg => rfl); (case hn => rfl); (case hr => first | (go_simp; done) | (go_simp; rfl)); intro w14 hw; have hg : w12.grownBy w14 (some go5) := (by rw [hw]; exact HP13.2); have hp_ : Kd.R k38 38 w14 w0.heap.size (fun k_ => (P0_ k_ ∨ w.heap.size ≤ k_)) (.slice (some ⟨go5, 0, none⟩) x0_1.length co8) y258 := (by rw [hw, Ny258.out]; exact HP13.1); clear HP13; have n0_ := Aside0.mk (hp_); have n1_ := Aside0.mk ((by rw [hw]; exact below_set (HB.out) GB5.out : Below w0.heap.size w0 w14)); have n2_ := Aside0.mk (Kept.of_grown (S := (fun k_ => P0_ k_)) hg (by repeat (first | (with_reducible first | exact HK.out | apply Kept.alloc | apply Kept.drewN | apply Kept.drew) | exact HK.out)) (fun k_ e_ => (HO_0.out.1 k_ e_))); clear HO_0; clear HB; clear HK; have HO_0 := n0_; have HB := n1_; have HK := n2_; clear n0_ n1_ n2_; clear hg hw hp_))
          go_roundg k1
          case measure => have := HK1.out; omega
          case rel => exact ⟨(y258), (wrap64 ((wrap64 ((wrap64 (x1_1 + 1)) + 1)) + 1)), (wrap64 (x5_1 + 1)), (by first | rfl | (simp; done) | (simp [*]; done) | (simp [bne]; done) | (simp [bne, *]; done)), (by first | rfl | (simp; done) | (simp [*]; done) | (simp [bne]; done) | (simp [bne, *]; done)), H', ⟨by have := HK1.out; omega⟩, ⟨by (with_reducible repeat (first | apply Kd.R_alloc | apply Kd.R_drewN | apply Kd.R_drew)); exact HO_0.out⟩, ⟨by repeat (first | (with_reducible first | exact HK.out | apply Kept.alloc | apply Kept.drewN | apply Kept.drew) | exact HK.out)⟩, ⟨by repeat (first | (with_reducible first | exact HB.out | apply below_alloc | apply pw_below_drewN | apply below_drew1) | exact HB.out)⟩⟩
        · rw [if_neg c4] at H
          exact absurd H (by simp)
      · rw [if_neg c3] at H
        have c3b0 : decide (x5_1 < (x0_1.length : Int)) = false := decide_eq_false c3
        clear c3
        simp only [Option.some.injEq, Prod.mk.injEq] at H
        obtain ⟨rfl, rfl⟩ := H
        obtain ⟨Ao15, co15, eo15⟩ := Kd.R_slice HO_0.out
        subst eo15
        go_wp2
        go_ret
        exact ⟨by first | rfl | (simp [errW_none, errW_some] <;> rfl) | (simp [*, errW_none, errW_some] <;> rfl), by (with_reducible repeat (first | apply Kd.R_alloc | apply Kd.R_drewN | apply Kd.R_drew)); exact HO_0.out, by repeat (first | (with_reducible first | exact HB.out | apply below_alloc | apply pw_below_drewN | apply below_drew1) | exact HB.out), by repeat (first | (with_reducible first | exact HK.out | apply Kept.alloc | apply Kept.drewN | apply Kept.drew) | exact HK.out)⟩

end Go.Proofs.YtakpkmkjhndpjaaDoor.Q

/- Written by a program of this session (wip/mp.sh) out of the translation: plain functions that answer as the functions of the given program do, and the proofs that they do; no condition of its own. -/
namespace Go.Proofs.YtakpkmkjhndpjaaDoor.Q
open Go.RowKit Go.Proofs.YtakpkmkjhndpjaaDoorW.PrintWords Go.Proofs.YtakpkmkjhndpjaaDoorW.PrintLast Go.Proofs.YtakpkmkjhndpjaaDoorW.PrintMore
attribute [local go_sem] max2_int min2_int max_two min_two max_three min_three max_four min_four   -- for this text's walks alone
set_option linter.unusedVariables false
set_option linter.unusedSimpArgs false

/-! ### laws_heldInsS: function 13 -/
def laws_heldInsS.l0 : Nat → List (S38) → Int → Int → Option (Int)
  | 0, _, _, _ => none
  | k + 1, x0, x1, x5 => if x5 < (x0.length : Int) then (if 0 ≤ x5 then (if ((rd_T38 x0 x5).f0) = x1 then (if ((rd_T38 x0 x5).f1) = (wrap64 (x1 + 1)) then (if ((rd_T38 x0 x5).f2) = (wrap64 ((wrap64 (x1 + 1)) + 1)) then (laws_heldInsS.l0 k x0 (wrap64 ((wrap64 ((wrap64 (x1 + 1)) + 1)) + 1)) (wrap64 (x5 + 1))) else (some (-1))) else (some (-1))) else (some (-1))) else (none)) else (some x1)
def laws_heldInsS.f (k : Nat) (l0 : List (S38)) (a1 : Int) : Option (Int) := laws_heldInsS.l0 k l0 a1 0
theorem laws_heldInsS.mono_l : ∀ k, (∀ y0 y1 y2, LeO (laws_heldInsS.l0 k y0 y1 y2) (laws_heldInsS.l0 (k + 1) y0 y1 y2))
  | 0 => fun _ _ _ r h => by simp [laws_heldInsS.l0] at h
  | k + 1 => by
    have ih0 := laws_heldInsS.mono_l k
    · intro y0 y1 y2
      unfold laws_heldInsS.l0
      repeat' first
      | (with_reducible exact ih0 _ _ _)
      | (with_reducible exact LeO.refl _)
      | (with_reducible exact LeO.none _)
      | (with_reducible refine LeO.ite ?_ ?_)
      | (with_reducible refine LeO.bind ?_ (fun _ => ?_))
      | exact ih0 _ _ _
      | exact LeO.none _
      | refine LeO.ite ?_ ?_
      | refine LeO.bind ?_ (fun _ => ?_)
theorem laws_heldInsS.mono : ∀ a0 a1 k, LeO (laws_heldInsS.f k a0 a1) (laws_heldInsS.f (k + 1) a0 a1) := by
  intro a0 a1 k
  have ih0 := laws_heldInsS.mono_l k
  unfold laws_heldInsS.f
  repeat' first
      | (with_reducible exact ih0 _ _ _)
      | (with_reducible exact LeO.refl _)
      | (with_reducible exact LeO.none _)
      | (with_reducible refine LeO.ite ?_ ?_)
      | (with_reducible refine LeO.bind ?_ (fun _ => ?_))
      | exact ih0 _ _ _
      | exact LeO.none _
      | refine LeO.ite ?_ ?_
      | refine LeO.bind ?_ (fun _ => ?_)
set_option maxHeartbeats 8000000 in
set_option maxRecDepth 100000 in
theorem laws_heldInsS.calls (k : Nat) (A0 : Option Addr) (c0 : Nat) (l0 : List (S38)) (a1 : Int) (r : Int) (w : World) (hr0 : Kd.C k38 w A0 l0.length l0) (hc0 : l0.length ≤ c0) (h : laws_heldInsS.f k l0 a1 = some r) :
    Calls Tryd.prog 13 #[.slice A0 l0.length c0, .int .i64 a1] w fun e w' => e = .returned (.int .i64 r) ∧ Drawn0 w w' := by
  have HR0 := Aside0.mk hr0
  have HC0 := Aside0.mk hc0
  clear hr0 hc0
  have H : (laws_heldInsS.l0 k l0 a1 0) = some r := h
  clear h
  have H' := Aside0.mk H
  clear H
  go_enter Tryd.func13, Tryd.ntmps13
  go_wp2
  go_loopg [1, 5] k (fun kq v1 v5 w' => ∃ (x1_1 : Int) (x5_1 : Int), v1 = .int .i64 x1_1 ∧ v5 = .int .i64 x5_1 ∧ Aside0 (laws_heldInsS.l0 kq l0 x1_1 x5_1 = some r) ∧ Aside0 (kq ≤ k) ∧ Drawn0 w w')
  case atStart => exact ⟨(a1), (0), (by first | rfl | (simp; done) | (simp [*]; done) | (simp [bne]; done) | (simp [bne, *]; done)), (by first | rfl | (simp; done) | (simp [*]; done) | (simp [bne]; done) | (simp [bne, *]; done)), H', ⟨Nat.le_refl _⟩, by repeat (first | exact Drawn0.refl _ | apply Drawn0.step)⟩
  case round =>
    clear H'
    try clear c1
    try clear p2
    obtain ⟨x1_1, x5_1, rfl, rfl, HA, HK1, ⟨m1, rfl⟩⟩ := hrel
    cases gk with
    | zero => exact absurd HA.out (by simp [laws_heldInsS.l0])
    | succ k1 =>
      have H := HA.out
      clear HA
      simp only [laws_heldInsS.l0] at H
      by_cases c3 : x5_1 < (l0.length : Int)
      · rw [if_pos c3] at H
        have c3b0 : decide (x5_1 < (l0.length : Int)) = true := decide_eq_true c3
        clear c3
        by_cases c4 : 0 ≤ x5_1
        · rw [if_pos c4] at H
          have c4b0 : decide (0 ≤ x5_1) = true := decide_eq_true c4
          clear c4
          by_cases c5 : ((rd_T38 l0 x5_1).f0) = x1_1
          · rw [if_pos c5] at H
            have c5b0 : (((rd_T38 l0 x5_1).f0) == x1_1) = true := beq_iff_eq.mpr c5
            have c5b1 : (((rd_T38 l0 x5_1).f0) != x1_1) = false := bne_eq_false_iff_eq.mpr c5
            clear c5
            by_cases c6 : ((rd_T38 l0 x5_1).f1) = (wrap64 (x1_1 + 1))
            · rw [if_pos c6] at H
              have c6b0 : (((rd_T38 l0 x5_1).f1) == (wrap64 (x1_1 + 1))) = true := beq_iff_eq.mpr c6
              have c6b1 : (((rd_T38 l0 x5_1).f1) != (wrap64 (x1_1 + 1))) = false := bne_eq_false_iff_eq.mpr c6
              clear c6
              by_cases c7 : ((rd_T38 l0 x5_1).f2) = (wrap64 ((wrap64 (x1_1 + 1)) + 1))
              · rw [if_pos c7] at H
                have c7b0 : (((rd_T38 l0 x5_1).f2) == (wrap64 ((wrap64 (x1_1 + 1)) + 1))) = true := beq_iff_eq.mpr c7
                have c7b1 : (((rd_T38 l0 x5_1).f2) != (wrap64 ((wrap64 (x1_1 + 1)) + 1))) = false := bne_eq_false_iff_eq.mpr c7
                clear c7
                have H' := Aside0.mk H
                clear H
                have p259 : 0 ≤ (x5_1 : Int) := of_decide_eq_true (by first | (with_reducible assumption) | assumption)
                have q259 : x5_1 < (l0.length : Int) := of_decide_eq_true (by first | (with_reducible assumption) | assumption)
                obtain ⟨ad259, e259, hx259_0, hx259_1, hx259_2⟩ := at_T38 HR0.out x5_1 p259 q259
                cases e259
                replace p259 := eq_true p259
                replace q259 := eq_true q259
                have p260 : 0 ≤ (x5_1 : Int) := of_decide_eq_true (by first | (with_reducible assumption) | assumption)
                have q260 : x5_1 < (l0.length : Int) := of_decide_eq_true (by first | (with_reducible assumption) | assumption)
                obtain ⟨ad260, e260, hx260_0, hx260_1, hx260_2⟩ := at_T38 HR0.out x5_1 p260 q260
                obtain rfl : ad259 = ad260 := (by injection e260)
                replace p260 := eq_true p260
                replace q260 := eq_true q260
                have p261 : 0 ≤ (x5_1 : Int) := of_decide_eq_true (by first | (with_reducible assumption) | assumption)
                have q261 : x5_1 < (l0.length : Int) := of_decide_eq_true (by first | (with_reducible assumption) | assumption)
                obtain ⟨ad261, e261, hx261_0, hx261_1, hx261_2⟩ := at_T38 HR0.out x5_1 p261 q261
                obtain rfl : ad259 = ad261 := (by injection e261)
                replace p261 := eq_true p261
                replace q261 := eq_true q261
                go_wp2
                go_roundg k1
                case measure => have := HK1.out; omega
                case rel => exact ⟨(wrap64 ((wrap64 ((wrap64 (x1_1 + 1)) + 1)) + 1)), (wrap64 (x5_1 + 1)), (by first | rfl | (simp; done) | (simp [*]; done) | (simp [bne]; done) | (simp [bne, *]; done)), (by first | rfl | (simp; done) | (simp [*]; done) | (simp [bne]; done) | (simp [bne, *]; done)), H', ⟨by have := HK1.out; omega⟩, by repeat (first | exact Drawn0.refl _ | apply Drawn0.step)⟩
              · rw [if_neg c7] at H
                have c7b0 : (((rd_T38 l0 x5_1).f2) == (wrap64 ((wrap64 (x1_1 + 1)) + 1))) = false := beq_eq_false_iff_ne.mpr c7
                have c7b1 : (((rd_T38 l0 x5_1).f2) != (wrap64 ((wrap64 (x1_1 + 1)) + 1))) = true := bne_iff_ne.mpr c7
                obtain rfl := Option.some.inj H
                have p259 : 0 ≤ (x5_1 : Int) := of_decide_eq_true (by first | (with_reducible assumption) | assumption)
                have q259 : x5_1 < (l0.length : Int) := of_decide_eq_true (by first | (with_reducible assumption) | assumption)
                obtain ⟨ad259, e259, hx259_0, hx259_1, hx259_2⟩ := at_T38 HR0.out x5_1 p259 q259
                cases e259
                replace p259 := eq_true p259
                replace q259 := eq_true q259
                have p260 : 0 ≤ (x5_1 : Int) := of_decide_eq_true (by first | (with_reducible assumption) | assumption)
                have q260 : x5_1 < (l0.length : Int) := of_decide_eq_true (by first | (with_reducible assumption) | assumption)
                obtain ⟨ad260, e260, hx260_0, hx260_1, hx260_2⟩ := at_T38 HR0.out x5_1 p260 q260
                obtain rfl : ad259 = ad260 := (by injection e260)
                replace p260 := eq_true p260
                replace q260 := eq_true q260
                have p261 : 0 ≤ (x5_1 : Int) := of_decide_eq_true (by first | (with_reducible assumption) | assumption)
                have q261 : x5_1 < (l0.length : Int) := of_decide_eq_true (by first | (with_reducible assumption) | assumption)
                obtain ⟨ad261, e261, hx261_0, hx261_1, hx261_2⟩ := at_T38 HR0.out x5_1 p261 q261
                obtain rfl : ad259 = ad261 := (by injection e261)
                replace p261 := eq_true p261
                replace q261 := eq_true q261
                go_wp2
                go_ret
                exact ⟨by first | rfl | (simp; done) | (simp [*]; done) | (simp [bne]; done) | (simp [bne, *]; done), by repeat (first | exact Drawn0.refl _ | apply Drawn0.step)⟩
            · rw [if_neg c6] at H
              have c6b0 : (((rd_T38 l0 x5_1).f1) == (wrap64 (x1_1 + 1))) = false := beq_eq_false_iff_ne.mpr c6
              have c6b1 : (((rd_T38 l0 x5_1).f1) != (wrap64 (x1_1 + 1))) = true := bne_iff_ne.mpr c6
              obtain rfl := Option.some.inj H
              have p259 : 0 ≤ (x5_1 : Int) := of_decide_eq_true (by first | (with_reducible assumption) | assumption)
              have q259 : x5_1 < (l0.length : Int) := of_decide_eq_true (by first | (with_reducible assumption) | assumption)
              obtain ⟨ad259, e259, hx259_0, hx259_1, hx259_2⟩ := at_T38 HR0.out x5_1 p259 q259
              cases e259
              replace p259 := eq_true p259
              replace q259 := eq_true q259
              have p260 : 0 ≤ (x5_1 : Int) := of_decide_eq_true (by first | (with_reducible assumption) | assumption)
              have q260 : x5_1 < (l0.length : Int) := of_decide_eq_true (by first | (with_reducible assumption) | assumption)
              obtain ⟨ad260, e260, hx260_0, hx260_1, hx260_2⟩ := at_T38 HR0.out x5_1 p260 q260
              obtain rfl : ad259 = ad260 := (by injection e260)
              replace p260 := eq_true p260
              replace q260 := eq_true q260
              go_wp2
              go_ret
              exact ⟨by first | rfl | (simp; done) | (simp [*]; done) | (simp [bne]; done) | (simp [bne, *]; done), by repeat (first | exact Drawn0.refl _ | apply Drawn0.step)⟩
          · rw [if_neg c5] at H
            have c5b0 : (((rd_T38 l0 x5_1).f0) == x1_1) = false := beq_eq_false_iff_ne.mpr c5
            have c5b1 : (((rd_T38 l0 x5_1).f0) != x1_1) = true := bne_iff_ne.mpr c5
            obtain rfl := Option.some.inj H
            have p259 : 0 ≤ (x5_1 : Int) := of_decide_eq_true (by first | (with_reducible assumption) | assumption)
            have q259 : x5_1 < (l0.length : Int) := of_decide_eq_true (by first | (with_reducible assumption) | assumption)
            obtain ⟨ad259, e259, hx259_0, hx259_1, hx259_2⟩ := at_T38 HR0.out x5_1 p259 q259
            cases e259
            replace p259 := eq_true p259
            replace q259 := eq_true q259
            go_wp2
            go_ret
            exact ⟨by first | rfl | (simp; done) | (simp [*]; done) | (simp [bne]; done) | (simp [bne, *]; done), by repeat (first | exact Drawn0.refl _ | apply Drawn0.step)⟩
        · rw [if_neg c4] at H
          exact absurd H (by simp)
      · rw [if_neg c3] at H
        have c3b0 : decide (x5_1 < (l0.length : Int)) = false := decide_eq_false c3
        clear c3
        obtain rfl := Option.some.inj H
        go_wp2
        go_ret
        exact ⟨by first | rfl | (simp; done) | (simp [*]; done) | (simp [bne]; done) | (simp [bne, *]; done), by repeat (first | exact Drawn0.refl _ | apply Drawn0.step)⟩

end Go.Proofs.YtakpkmkjhndpjaaDoor.Q

/- The law's own walk: a text is read alike by both sides, twice, and the second reading leaves the first one's row alone. -/
namespace Go.Proofs.YtakpkmkjhndpjaaDoor.Q
open Go.RowKit Go.Shelf Go.Proofs.YtakpkmkjhndpjaaDoorW.PrintWords Go.Proofs.YtakpkmkjhndpjaaDoorW.PrintLast
set_option linter.unusedVariables false
set_option linter.unusedSimpArgs false

set_option maxHeartbeats 1000000 in
set_option maxRecDepth 100000 in
theorem readLaw.far (s : ByteArray) (hs : 1048576 < s.size) (w : World) :
    Calls Tryd.prog 4 #[.string s] w fun e w' => e = .returned (.bool true) ∧ Below w.heap.size w w' := by
  have c1 : decide ((1048576 : Int) < (s.size : Int)) = true := decide_eq_true (by omega)
  have c2 : decide (1048576 < s.size) = true := decide_eq_true (by omega)
  go_enter Tryd.func4, Tryd.ntmps4
  go_wp2
  go_ret
  exact ⟨rfl, Below.refl _ _⟩
set_option maxHeartbeats 1000000 in
set_option maxRecDepth 100000 in
theorem readLaw.near (s : ByteArray) (hs : s.size ≤ 1048576) (w : World) (m : Int) (hm : w.cell? ⟨0, 0, none⟩ = some (.int .i64 m)) (k : Nat) (r1 : List S38) (r2 r3 : Int) (h1 : spec_ProgramRead.f k s = some (r1, r2, r3))
    (h2 : ∀ w' : World, w'.cell? ⟨0, 0, none⟩ = some (.int .i64 m) → Calls Tryd.prog 11 #[.string s] w' fun e w2 => ∃ v0_ : Value, e = .returned (.tuple #[v0_, .int .i64 r2, .int .i64 r3]) ∧ Kd.R k38 38 w2 w'.heap.size (fun _ => True) v0_ r1 ∧ Below w'.heap.size w' w2)
    (h3 : laws_eqInsS.f k r1 r1 = some true) (q : Int) (r4 : List S38) (h4 : laws_markInsS.f k r1 1 = some (q, r4)) (hq : 0 ≤ q) (h5 : laws_heldInsS.f k r4 1 = some q) :
    Calls Tryd.prog 4 #[.string s] w fun e w' => e = .returned (.bool true) ∧ Below w.heap.size w w' := by
  have c1 : decide ((1048576 : Int) < (s.size : Int)) = false := decide_eq_false (by omega)
  have c2 : decide (1048576 < s.size) = false := decide_eq_false (by omega)
  have c3 : decide (q < 0) = false := decide_eq_false (by omega)
  have HM := Aside0.mk hm
  have H1 := Aside0.mk h1
  have H2 := Aside0.mk h2
  have H3 := Aside0.mk h3
  have H4 := Aside0.mk h4
  have H5 := Aside0.mk h5
  clear hm h1 h2 h3 h4 h5 hs hq
  go_enter Tryd.func4, Tryd.ntmps4
  go_wp2_with fail
  refine (spec_ProgramRead.calls k s r1 r2 r3 w H1.out).mono ?_
  rintro e w1 ⟨v1, rfl, hR, hb⟩
  have B1 := Aside0.mk hb
  obtain ⟨A1, d1, rfl⟩ := Kd.R_slice hR
  have R1 := Aside0.mk (Kd.R_reads' hR).2.2
  have L1 := Aside0.mk (Kd.R_reads' hR).2.1
  clear hR hb
  go_wp2_with fail
  refine (H2.out w1 ((B1.out.cell (World.block_lt_of_cell? w _ HM.out)).trans HM.out)).mono ?_
  rintro e w2 ⟨v2, rfl, hR, hb⟩
  have B2 := Aside0.mk (below_step B1.out hb)
  have BB := Aside0.mk hb
  have R1b := Aside0.mk (Kd.C_below R1.out hb)
  have R2 := Aside0.mk hR
  obtain ⟨A2, d2, rfl⟩ := Kd.R_slice hR
  clear hR hb
  go_wp2_with fail
  refine (laws_eqInsS.calls k A2 d2 r1 A1 d1 r1 true _ (Kd.R_reads' R2.out).2.2 (Kd.R_reads' R2.out).2.1 R1b.out L1.out H3.out).mono ?_
  rintro e w3 ⟨rfl, hb⟩
  have B3 := Aside0.mk (below_step B2.out hb)
  have BB3 := Aside0.mk (below_step BB.out hb)
  have R1c := Aside0.mk (Kd.C_below R1b.out hb)
  have R3 := Aside0.mk (Kd.R_below R2.out hb)
  clear hb R1b R2 B2 BB
  go_wp2_with fail
  refine (laws_markInsS.calls k (fun _ => True) (.slice A2 r1.length d2) r1 1 q r4 w1 w3 BB3.out R3.out H4.out).mono ?_
  rintro e w4 ⟨rfl, hR, hb, -⟩
  obtain ⟨A4, d4, e4⟩ := Kd.R_slice hR
  have hl : r1.length = r4.length := by injection e4
  have hA : A2 = A4 := by injection e4
  have hd : d2 = d4 := by injection e4
  have LL := Aside0.mk hl
  have R4 := Aside0.mk (Kd.R_reads' (A := A2) (n := r4.length) (c := d2) (by rw [← hl]; exact hR)).2.2
  have L4 := Aside0.mk (Kd.R_reads' (A := A2) (n := r4.length) (c := d2) (by rw [← hl]; exact hR)).2.1
  have R1d := Aside0.mk (Kd.C_below R1.out hb)
  have B4 := Aside0.mk (below_step B1.out hb)
  clear hb hR e4 hl hA hd R1 R1c R3 B3 BB3
  go_wp2_with fail
  refine (show Calls Tryd.prog 13 #[.slice A2 r1.length d2, .int .i64 1] w4 (fun e w' => e = .returned (.int .i64 q) ∧ Drawn0 w4 w') by rw [LL.out]; exact laws_heldInsS.calls k A2 d2 r4 1 q w4 R4.out L4.out H5.out).mono ?_
  rintro e w5 ⟨rfl, hd⟩
  obtain ⟨nd, rfl⟩ := hd.out
  have B5 := Aside0.mk (pw_below_drewN B4.out nd)
  have R5 := Aside0.mk (show Kd.C k38 (w4.drewN nd) A2 r4.length r4 by apply Kd.C_drewN; exact R4.out)
  have R1e := Aside0.mk (show Kd.C k38 (w4.drewN nd) A1 r1.length r1 by apply Kd.C_drewN; exact R1d.out)
  generalize w4.drewN nd = w5 at *
  clear hd R4 R1d B4
  go_wp2_with fail
  refine (H2.out w5 ((B5.out.cell (World.block_lt_of_cell? w _ HM.out)).trans HM.out)).mono ?_
  rintro e w6 ⟨v6, rfl, hR, hb⟩
  have B6 := Aside0.mk (below_step B5.out hb)
  have R1f := Aside0.mk (Kd.C_below R1e.out hb)
  have R6 := Aside0.mk (Kd.C_below R5.out hb)
  obtain ⟨A6, d6, rfl⟩ := Kd.R_slice hR
  have R7 := Aside0.mk (Kd.R_reads' hR).2.2
  have L7 := Aside0.mk (Kd.R_reads' hR).2.1
  clear hR hb R1e R5 B5
  go_wp2_with fail
  refine (laws_eqInsS.calls k A6 d6 r1 A1 d1 r1 true _ R7.out L7.out R1f.out L1.out H3.out).mono ?_
  rintro e w7 ⟨rfl, hb⟩
  have B7 := Aside0.mk (below_step B6.out hb)
  have R8 := Aside0.mk (Kd.C_below R6.out hb)
  clear hb R6 B6 R7 R1f
  go_wp2_with fail
  refine (show Calls Tryd.prog 13 #[.slice A2 r1.length d2, .int .i64 1] w7 (fun e w' => e = .returned (.int .i64 q) ∧ Drawn0 w7 w') by rw [LL.out]; exact laws_heldInsS.calls k A2 d2 r4 1 q w7 R8.out L4.out H5.out).mono ?_
  rintro e w8 ⟨rfl, hd⟩
  obtain ⟨nd, rfl⟩ := hd.out
  clear hd
  go_wp2_with fail
  go_ret
  exact ⟨rfl, pw_below_drewN B7.out nd⟩
end Go.Proofs.YtakpkmkjhndpjaaDoor.Q

/- A text is read alike by both sides; what is marked is held; the law. -/
namespace Go.Proofs.YtakpkmkjhndpjaaDoor.Pure
open Go.RowKit Go.Proofs.YtakpkmkjhndpjaaDoor.Q Go.Proofs.YtakpkmkjhndpjaaDoor.R Go.Proofs.YtakpkmkjhndpjaaDoorW.PrintWords Go.Proofs.YtakpkmkjhndpjaaDoorW.PrintLast

theorem until_ev (s : ByteArray) (hs : s.size ≤ 400000) : ∀ (m i : Nat), s.size - i = m → i ≤ s.size → W (fun k => spec_l03Until.l0 k s (i : Int) 10) (fun r => ∃ e : Nat, r = (e : Int) ∧ i ≤ e ∧ e ≤ s.size ∧ (∀ k, i ≤ k → k < e → s.data.toList[k]? ≠ some 10) ∧ (e < s.size → s.data.toList[e]? = some 10)) := by
  intro m
  induction m with
  | zero =>
    intro i hm hi
    refine W.step (fun k => by rw [spec_l03Until.l0]) ?_
    exact W.no (by omega) (W.pure ⟨i, rfl, Nat.le_refl _, hi, fun k _ _ => by omega, fun h => by omega⟩)
  | succ m ih =>
    intro i hm hi
    refine W.step (fun k => by rw [spec_l03Until.l0]) ?_
    refine W.yes (by omega) (W.yes (by omega) (W.ite (fun h => ?_) (fun h => ?_)))
    · exact W.pure ⟨i, rfl, Nat.le_refl _, hi, fun k _ _ => by omega, fun h2 => (bt_get s i 10 h2).mpr h⟩
    · rw [wrapS i (by omega)]
      refine W.mono (ih (i + 1) (by omega) (by omega)) ?_
      rintro r ⟨e, rfl, h1, h2, h3, h4⟩
      refine ⟨e, rfl, by omega, h2, fun k ha hb => ?_, h4⟩
      by_cases hk : k = i
      · subst hk
        exact fun e2 => h ((bt_get s k 10 (by omega)).mp e2)
      · exact h3 k (by omega) hb
/-- what the program reads is R, from some round on -/
def Reads (t : ByteArray) (out : List S38) (R : List S38 × Int × Int) : Prop := R.1.length ≤ 50000 ∧ ∃ K0, ∀ K, K0 ≤ K → ∀ j, t.size < j → rl decR K j t out = some R
theorem prog_loop (s : ByteArray) (hs : s.size ≤ 400000) : ∀ (m a : Nat) (out : List S38), s.size - a = m → a ≤ s.size → out.length ≤ a →
    W (fun k => spec_ProgramRead.l0 k s out (a : Int)) (Reads (s.extract a s.size) out) := by
  intro m
  induction m using Nat.strongRecOn with
  | _ m ih =>
  intro a out hm ha ho
  have hts : (s.extract a s.size).size = s.size - a := by rw [ByteArray.size_extract]; omega
  refine W.step (fun k => by rw [spec_ProgramRead.l0]) ?_
  by_cases hlt : a < s.size
  · refine W.yes (by omega) (W.bind (W.cong (fun k => by rw [spec_l03Until.f]) (until_ev s hs _ a rfl (by omega))) (fun r hr => ?_))
    obtain ⟨e, rfl, h1, h2, h3, h4⟩ := hr
    have hx : (s.extract (a : Int).toNat (e : Int).toNat).size ≤ 400000 := by rw [ByteArray.size_extract]; omega
    refine W.yes (by omega) (W.yes (by omega) (W.yes (by omega) (W.bind (readLine_ev _ hx) (fun q hq => ?_))))
    rw [Int.toNat_natCast, Int.toNat_natCast] at hq
    have hA : cutA (s.extract a s.size) = s.extract a e ∧ (e < s.size → cutZ (s.extract a s.size) = s.extract (e + 1) s.size ∧ cutB (s.extract a s.size) = true) ∧ (e = s.size → cutB (s.extract a s.size) = false) := by
      by_cases he : e < s.size
      · have c := cut_at (s.extract a s.size) (e - a) (by rw [ext_get, show a + (e - a) = e by omega]; exact h4 he) (fun k hk => by rw [ext_get]; exact h3 _ (by omega) (by omega))
        rw [ByteArray.extract_extract, ByteArray.extract_extract, hts] at c
        refine ⟨?_, fun _ => ⟨?_, c.2.2⟩, fun h => by omega⟩
        · rw [c.1]
          congr 1
          omega
        · rw [c.2.1]
          congr 1
          · omega
          · omega
      · have c := cut_no (s.extract a s.size) (fun k => by
          rw [ext_get]
          by_cases hk : a + k < s.size
          · exact h3 _ (by omega) (by omega)
          · rw [List.getElem?_eq_none_iff.mpr (show s.size ≤ a + k by omega)]
            simp)
        have ee : e = s.size := by omega
        rw [ee]
        exact ⟨c.1, fun h => by omega, fun _ => c.2⟩
    have bad : (cutB (s.extract a s.size) = false ∨ (readR decR (wordsOf (s.extract a e))).2.2.2 = false) → Reads (s.extract a s.size) out ([], 2, (out.length : Int)) := by
      intro h
      refine ⟨by simp, 0, fun K _ j hj => ?_⟩
      cases j with
      | zero => omega
      | succ j =>
        rw [rl, if_neg (by omega), hA.1]
        rcases h with h | h
        · rw [h, if_neg (by decide)]
        · rw [h, if_neg (show ¬ (false = true) by decide), ite_self]
    refine W.ite (fun hq1 => ?_) (fun hq1 => W.pure (bad (.inr ?_)))
    · have hq2 := hq.2 hq1
      refine W.ite (fun he => W.pure (bad (.inl (hA.2.2 (by omega))))) (fun he => ?_)
      have he' : e < s.size := by omega
      refine W.yes (by omega) ?_
      rw [wrapS e (by omega)]
      refine W.mono (ih (s.size - (e + 1)) (by omega) (e + 1) (out ++ [(⟨q.1, q.2.1, q.2.2.1⟩ : S38)]) rfl (by omega) (by rw [List.length_append]; simp; omega)) ?_
      rintro R ⟨hR, K0, hK⟩
      refine ⟨hR, K0, fun K h j hj => ?_⟩
      cases j with
      | zero => omega
      | succ j =>
        rw [rl, if_neg (by omega), hA.1, (hA.2.1 he').2, if_pos rfl, ← hq.1, if_pos hq1, (hA.2.1 he').1, ← hq2]
        exact hK K h j (by rw [ByteArray.size_extract]; omega)
    · rw [← hq.1]
      exact Bool.eq_false_iff.mpr hq1
  · have hz : (s.extract a s.size).size = 0 := by omega
    obtain ⟨b0, ⟨K0, hK⟩, hb⟩ := iOK_ev out (by omega)
    subst hb
    refine W.no (by omega) (W.bind (sOK_ev out (by omega)) (fun b hb => ?_))
    subst hb
    have fin : ∀ R : List S38 × Int × Int, R = (if progB out = true then (out, 0, 0) else ([], 10, 0)) → R.1.length ≤ 50000 → Reads (s.extract a s.size) out R := by
      intro R hR hl
      refine ⟨hl, K0, fun K h j hj => ?_⟩
      cases j with
      | zero => omega
      | succ j =>
        rw [rl, if_pos hz, show impl_ProgramOK.f K out = some (progB out) from hK K h, Option.bind_some, hR]
    refine W.ite (fun h => W.pure (fin _ ?_ (progB_can h).1)) (fun h => W.pure (fin _ ?_ (by simp)))
    · rw [if_pos h]
    · rw [if_neg h]

def marked (n : Nat) : List S38 := (List.range n).map (fun i : Nat => (⟨1 + 3 * (i : Int), 2 + 3 * (i : Int), 3 + 3 * (i : Int)⟩ : S38))
theorem marked_length (n : Nat) : (marked n).length = n := by simp [marked]
theorem marked_get (n i : Nat) (h : i < n) : rd_T38 (marked n) (i : Int) = ⟨1 + 3 * (i : Int), 2 + 3 * (i : Int), 3 + 3 * (i : Int)⟩ := by
  rw [rd38_get _ i (by rw [marked_length]; exact h)]
  simp [marked]
theorem rd38_set (l : List S38) (i : Nat) (x : S38) (h : i < l.length) : rd_T38 (l.set i x) (i : Int) = x := by
  rw [rd38_get _ i (by rw [List.length_set]; exact h)]
  simp
theorem mark_loop (n : Nat) (hn : n ≤ 50000) : ∀ (m i : Nat) (l : List S38), n - i = m → i ≤ n → l.length = n → l.take i = (marked n).take i →
    W (fun k => laws_markInsS.l0 k l (1 + 3 * (i : Int)) (i : Int)) (· = (1 + 3 * (n : Int), marked n)) := by
  intro m
  induction m with
  | zero =>
    intro i l hm hi hl ht
    have e : i = n := by omega
    subst e
    refine W.step (fun k => by rw [laws_markInsS.l0]) ?_
    refine W.no (by omega) (W.pure ?_)
    rw [List.take_of_length_le (by omega), List.take_of_length_le (by rw [marked_length]; omega)] at ht
    rw [ht]
  | succ m ih =>
    intro i l hm hi hl ht
    have w1 : wrap64 (1 + 3 * (i : Int) + 1) = 2 + 3 * (i : Int) := by rw [wrap_id (by omega) (by omega)]; omega
    have w2 : wrap64 (2 + 3 * (i : Int) + 1) = 3 + 3 * (i : Int) := by rw [wrap_id (by omega) (by omega)]; omega
    have w3 : wrap64 (3 + 3 * (i : Int) + 1) = 1 + 3 * ((i + 1 : Nat) : Int) := by rw [wrap_id (by omega) (by omega)]; omega
    refine W.step (fun k => by rw [laws_markInsS.l0]) ?_
    rw [w1, w2, w3, wrapS i (by omega), Int.toNat_natCast]
    refine W.yes (by omega) (W.yes (by omega) (W.bindc rfl (W.bindc rfl ?_)))
    rw [rd38_set _ i _ (by omega), rd38_set _ i _ (by rw [List.length_set]; omega), List.set_set, List.set_set]
    refine ih (i + 1) _ (by omega) (by omega) (by rw [List.length_set]; exact hl) ?_
    have h1 : i < l.length := by omega
    have h2 : i < (marked n).length := by rw [marked_length]; omega
    rw [List.take_add_one, List.take_add_one, List.take_set_of_le (Nat.le_refl _), ht, List.getElem?_set_self h1]
    congr 1
    rw [List.getElem?_eq_getElem h2]
    have := marked_get n i (by omega)
    rw [rd38_get _ i h2] at this
    rw [this]
theorem held_loop (n : Nat) (hn : n ≤ 50000) : ∀ (m i : Nat), n - i = m → i ≤ n → W (fun k => laws_heldInsS.l0 k (marked n) (1 + 3 * (i : Int)) (i : Int)) (· = 1 + 3 * (n : Int)) := by
  intro m
  induction m with
  | zero =>
    intro i hm hi
    have e : i = n := by omega
    subst e
    refine W.step (fun k => by rw [laws_heldInsS.l0]) ?_
    exact W.no (by rw [marked_length]; omega) (W.pure rfl)
  | succ m ih =>
    intro i hm hi
    have w1 : wrap64 (1 + 3 * (i : Int) + 1) = 2 + 3 * (i : Int) := by rw [wrap_id (by omega) (by omega)]; omega
    have w2 : wrap64 (2 + 3 * (i : Int) + 1) = 3 + 3 * (i : Int) := by rw [wrap_id (by omega) (by omega)]; omega
    have w3 : wrap64 (3 + 3 * (i : Int) + 1) = 1 + 3 * ((i + 1 : Nat) : Int) := by rw [wrap_id (by omega) (by omega)]; omega
    refine W.step (fun k => by rw [laws_heldInsS.l0]) ?_
    rw [w1, w2, w3, wrapS i (by omega), marked_get n i (by omega)]
    exact W.yes (by rw [marked_length]; omega) (W.yes (by omega) (W.yes rfl (W.yes rfl (W.yes rfl (ih (i + 1) (by omega) (by omega))))))
theorem read_ev (s : ByteArray) (hs : s.size ≤ 1048576) : ∃ (R : List S38 × Int × Int) (K0 : Nat), R.1.length ≤ 50000 ∧ ∀ K, K0 ≤ K → spec_ProgramRead.f K s = some R ∧ (s.size ≤ 400000 → rl decR K (s.size + 1) s [] = some R) ∧ (400000 < s.size → R = ([], 1, 0)) := by
  by_cases h : (s.size : Int) > 400000
  · refine ⟨([], 1, 0), 0, by simp, fun K _ => ⟨?_, fun h2 => by omega, fun _ => rfl⟩⟩
    rw [spec_ProgramRead.f, if_pos h]
  · obtain ⟨R, ⟨k1, e1⟩, hl, k2, e2⟩ := prog_loop s (by omega) _ 0 [] rfl (by omega) (by simp)
    refine ⟨R, max k1 k2, hl, fun K hK => ⟨?_, fun _ => ?_, fun h2 => by omega⟩⟩
    · rw [spec_ProgramRead.f, if_neg h]
      exact e1 K (by omega)
    · have := e2 K (by omega) (s.size + 1) (by rw [ext_all]; omega)
      rwa [ext_all] at this
theorem readLaw (s : ByteArray) (w : World) (m : Int) (hm : w.cell? ⟨0, 0, none⟩ = some (.int .i64 m)) :
    Calls Tryd.prog 4 #[.string s] w fun e w' => e = .returned (.bool true) ∧ Below w.heap.size w w' := by
  by_cases hs : s.size ≤ 1048576
  · obtain ⟨⟨r1, r2, r3⟩, K0, hl, hK⟩ := read_ev s hs
    obtain ⟨b, ⟨k1, e1⟩, hb⟩ := eq_ev r1 (by show r1.length ≤ _; have : r1.length ≤ 50000 := hl; omega)
    subst hb
    obtain ⟨q, ⟨k2, e2⟩, hq⟩ := mark_loop r1.length hl _ 0 r1 rfl (by omega) rfl rfl
    subst hq
    obtain ⟨q, ⟨k3, e3⟩, hq⟩ := held_loop r1.length hl _ 0 rfl (by omega)
    subst hq
    obtain ⟨K, hK1⟩ : ∃ K, K = max (max K0 k1) (max (max k2 k3) 10) := ⟨_, rfl⟩
    obtain ⟨f1, f2, f3⟩ := hK K (by omega)
    refine readLaw.near s hs w m hm K r1 r2 r3 f1 (fun w' hm' => ?_) (e1 K (by omega)) (1 + 3 * (r1.length : Int)) (marked r1.length) (e2 K (by omega)) (by omega) (e3 K (by omega))
    by_cases h4 : s.size ≤ 400000
    · exact impl_ProgramRead.near K decR s h4 m w' hm' (fun y => dec_is y K (by omega)) (s.size + 1) r1 r2 r3 (f2 h4)
    · have e := f3 (by omega)
      simp only [Prod.mk.injEq] at e
      obtain ⟨rfl, rfl, rfl⟩ := e
      refine (impl_ProgramRead.far s (by omega) w').mono ?_
      rintro e w2 ⟨rfl, hb⟩
      exact ⟨_, rfl, Kd.R_nil _ _ _ _ _, hb⟩
  · exact readLaw.far s (by omega) w
end Go.Proofs.YtakpkmkjhndpjaaDoor.Pure
