/- Texts of this session, one behind the other: Rx0 Rx1 Rx2 HTake HSplit HReadIns HRead. -/
import Derived.Test.YtakpkmkjhndpjaaDoorProg
import Derived.Below
import Derived.Deep.Draws
import Derived.Deep.AppendLies
import Derived.Maps.AppendAt
import Derived.OwnWalk
import Derived.Laws.BytesArg
import Derived.Laws.MakeOwn
import Derived.Laws.OwnMore
import Derived.Deep.OwnRows
import Derived.Tactics
import Derived.Lib.ConvBytes
import Derived.Laws.Slices
import Derived.WalkKit
import Derived.KernelRfl
import Derived.RowKit3
import Derived.Deep.LoopGhost
import Derived.Deep.QuietTactic
import Derived.BigQuiet
import Derived.WideLaws
import Derived.Deep.DeepCutAuto
import Derived.Deep.CutBlock
import Derived.Deep.RegionHeld3
import Derived.Laws.Rows
import Derived.Lib.AppendStr
import Derived.ArgAppend
import Derived.Laws.IdiomCopy
import Derived.OrdersHeld
import Derived.Laws.BitsLemmas
import Derived.RowKit
import Derived.Test.YtakpkmkjhndpjaaDoorWWords
import Derived.Test.YtakpkmkjhndpjaaDoorWLast
import Derived.Test.YtakpkmkjhndpjaaDoorWTab
import Derived.Test.YtakpkmkjhndpjaaDoorWFour
import Derived.Test.YtakpkmkjhndpjaaDoorWQPut
import Derived.Test.YtakpkmkjhndpjaaDoorWApart
import Derived.Test.YtakpkmkjhndpjaaDoorWArr
import Derived.Test.YtakpkmkjhndpjaaDoorWZeros
import Derived.Test.YtakpkmkjhndpjaaDoorWFoot
import Derived.Test.YtakpkmkjhndpjaaDoorWKept
import Derived.Test.YtakpkmkjhndpjaaDoorWShare
import Derived.Test.YtakpkmkjhndpjaaDoorWN
import Derived.Test.YtakpkmkjhndpjaaDoorWFootNe
import Derived.Test.YtakpkmkjhndpjaaDoorWAt
import Derived.Test.YtakpkmkjhndpjaaDoorWEqStruct
import Derived.Test.YtakpkmkjhndpjaaDoorWRepsOne
import Derived.Test.YtakpkmkjhndpjaaDoorWInv
import Derived.Test.YtakpkmkjhndpjaaDoorWInvWords
import Derived.Test.YtakpkmkjhndpjaaDoorWGuard
import Derived.Test.YtakpkmkjhndpjaaDoorWNEv
import Derived.Test.YtakpkmkjhndpjaaDoorWMore
import Derived.Test.YtakpkmkjhndpjaaDoorQx0
import Derived.Test.YtakpkmkjhndpjaaDoorQx14
import Derived.Test.YtakpkmkjhndpjaaDoorQx20
import Derived.Test.YtakpkmkjhndpjaaDoorQx21
import Derived.Test.YtakpkmkjhndpjaaDoorHProg
import Derived.Shelf.Strings.Cut
import Derived.Shelf.Strings.Split
-- Written by a program of this session (wip/mp.sh) out of the translation; Lean checks it.
namespace Go.Proofs.YtakpkmkjhndpjaaDoor.R
open Go.RowKit Go.Proofs.YtakpkmkjhndpjaaDoorW.PrintWords Go.Proofs.YtakpkmkjhndpjaaDoorW.PrintLast Go.Proofs.YtakpkmkjhndpjaaDoorW.PrintMore
attribute [local go_sem] max2_int min2_int max_two min_two max_three min_three max_four min_four   -- for this text's walks alone
set_option linter.unusedVariables false
set_option linter.unusedSimpArgs false



def errW : Option Int → Value
  | none => .nilIface
  | some c => .iface 0 (.int .i64 c)
theorem errW_none : errW none = .nilIface := rfl
theorem errW_some (c : Int) : errW (some c) = .iface 0 (.int .i64 c) := rfl

-- the values' own types

end Go.Proofs.YtakpkmkjhndpjaaDoor.R

-- Written by a program of this session (wip/mp.sh) out of the translation; Lean checks it.
namespace Go.Proofs.YtakpkmkjhndpjaaDoor.R
open Go.RowKit Go.Proofs.YtakpkmkjhndpjaaDoorW.PrintWords Go.Proofs.YtakpkmkjhndpjaaDoorW.PrintLast Go.Proofs.YtakpkmkjhndpjaaDoorW.PrintMore
attribute [local go_sem] max2_int min2_int max_two min_two max_three min_three max_four min_four   -- for this text's walks alone
set_option linter.unusedVariables false
set_option linter.unusedSimpArgs false

/-! ### impl_isDigit: function 50 -/
def impl_isDigit.f (a0 : Int) : Option (Bool) := if a0 ≥ 48 then (some (decide (a0 ≤ 57))) else (some false)
set_option maxHeartbeats 8000000 in
set_option maxRecDepth 100000 in
theorem impl_isDigit.calls (a0 : Int) (r : Bool) (w : World) (h : impl_isDigit.f a0 = some r) :
    Calls Tryd.prog 50 #[.int .u8 a0] w fun e w' => e = .returned (.bool r) ∧ Drawn0 w w' := by
  have H : (if a0 ≥ 48 then (some (decide (a0 ≤ 57))) else (some false)) = some r := h
  clear h
  by_cases c2 : a0 ≥ 48
  · rw [if_pos c2] at H
    have c2b0 : decide (48 ≤ a0) = true := decide_eq_true c2
    clear c2
    obtain rfl := Option.some.inj H
    go_enter Tryd.func50, Tryd.ntmps50
    go_wp2
    go_ret
    exact ⟨by first | rfl | (simp; done) | (simp [*]; done) | (simp [bne]; done) | (simp [bne, *]; done), by repeat (first | exact Drawn0.refl _ | apply Drawn0.step)⟩
  · rw [if_neg c2] at H
    have c2b0 : decide (48 ≤ a0) = false := decide_eq_false c2
    clear c2
    obtain rfl := Option.some.inj H
    go_enter Tryd.func50, Tryd.ntmps50
    go_wp2
    go_ret
    exact ⟨by first | rfl | (simp; done) | (simp [*]; done) | (simp [bne]; done) | (simp [bne, *]; done), by repeat (first | exact Drawn0.refl _ | apply Drawn0.step)⟩

end Go.Proofs.YtakpkmkjhndpjaaDoor.R

-- Written by a program of this session (wip/mp.sh) out of the translation; Lean checks it.
namespace Go.Proofs.YtakpkmkjhndpjaaDoor.R
open Go.RowKit Go.Proofs.YtakpkmkjhndpjaaDoorW.PrintWords Go.Proofs.YtakpkmkjhndpjaaDoorW.PrintLast Go.Proofs.YtakpkmkjhndpjaaDoorW.PrintMore
attribute [local go_sem] max2_int min2_int max_two min_two max_three min_three max_four min_four   -- for this text's walks alone
set_option linter.unusedVariables false
set_option linter.unusedSimpArgs false

/-! ### impl_decimal: function 45 -/
mutual
def impl_decimal.j0 : Nat → ByteArray → Bool → Option (Int × Bool)
  | 0, _, _ => none
  | k + 1, x0, x23 => if x23 = true then (some (0, false)) else (impl_decimal.l0 k x0 0 (x0.size : Int) 0)
def impl_decimal.l0 : Nat → ByteArray → Int → Int → Int → Option (Int × Bool)
  | 0, _, _, _, _ => none
  | k + 1, x0, x4, x25, x26 => if x26 < x25 then (if 0 ≤ x26 then (if x26 < (x0.size : Int) then ((impl_isDigit.f (bt x0 x26)).bind fun t101 => (if t101 = true then (impl_decimal.l0 k x0 (wrap64 ((wrap64 (x4 * 10)) + (((bt x0 x26) - 48) % 256))) x25 (wrap64 (x26 + 1))) else (some (0, false)))) else (none)) else (none)) else (some (x4, true))
end
def impl_decimal.f (k : Nat) (a0 : ByteArray) : Option (Int × Bool) := if (a0.size : Int) < 1 then (impl_decimal.j0 k a0 true) else (if (a0.size : Int) > 6 then (impl_decimal.j0 k a0 true) else (if (a0.size : Int) > 1 then (if 0 < (a0.size : Int) then (impl_decimal.j0 k a0 ((bt a0 0) == 48)) else (none)) else (impl_decimal.j0 k a0 false)))
theorem impl_decimal.mono_l : ∀ k, (∀ y0 y1, LeO (impl_decimal.j0 k y0 y1) (impl_decimal.j0 (k + 1) y0 y1)) ∧ (∀ y0 y1 y2 y3, LeO (impl_decimal.l0 k y0 y1 y2 y3) (impl_decimal.l0 (k + 1) y0 y1 y2 y3))
  | 0 => ⟨fun _ _ r h => by simp [impl_decimal.j0] at h, fun _ _ _ _ r h => by simp [impl_decimal.l0] at h⟩
  | k + 1 => by
    obtain ⟨ih0, ih1⟩ := impl_decimal.mono_l k
    refine ⟨?_, ?_⟩
    · intro y0 y1
      unfold impl_decimal.j0
      repeat' first
      | (with_reducible exact ih0 _ _)
      | (with_reducible exact ih1 _ _ _ _)
      | (with_reducible exact LeO.refl _)
      | (with_reducible exact LeO.none _)
      | (with_reducible refine LeO.ite ?_ ?_)
      | (with_reducible refine LeO.bind ?_ (fun _ => ?_))
      | exact ih0 _ _
      | exact ih1 _ _ _ _
      | exact LeO.none _
      | refine LeO.ite ?_ ?_
      | refine LeO.bind ?_ (fun _ => ?_)
    · intro y0 y1 y2 y3
      unfold impl_decimal.l0
      repeat' first
      | (with_reducible exact ih0 _ _)
      | (with_reducible exact ih1 _ _ _ _)
      | (with_reducible exact LeO.refl _)
      | (with_reducible exact LeO.none _)
      | (with_reducible refine LeO.ite ?_ ?_)
      | (with_reducible refine LeO.bind ?_ (fun _ => ?_))
      | exact ih0 _ _
      | exact ih1 _ _ _ _
      | exact LeO.none _
      | refine LeO.ite ?_ ?_
      | refine LeO.bind ?_ (fun _ => ?_)
theorem impl_decimal.mono : ∀ a0 k, LeO (impl_decimal.f k a0) (impl_decimal.f (k + 1) a0) := by
  intro a0 k
  obtain ⟨ih0, ih1⟩ := impl_decimal.mono_l k
  unfold impl_decimal.f
  repeat' first
      | (with_reducible exact ih0 _ _)
      | (with_reducible exact ih1 _ _ _ _)
      | (with_reducible exact LeO.refl _)
      | (with_reducible exact LeO.none _)
      | (with_reducible refine LeO.ite ?_ ?_)
      | (with_reducible refine LeO.bind ?_ (fun _ => ?_))
      | exact ih0 _ _
      | exact ih1 _ _ _ _
      | exact LeO.none _
      | refine LeO.ite ?_ ?_
      | refine LeO.bind ?_ (fun _ => ?_)
set_option maxHeartbeats 8000000 in
set_option maxRecDepth 100000 in
theorem impl_decimal.calls (k : Nat) (a0 : ByteArray) (r1 : Int) (r2 : Bool) (w : World) (h : impl_decimal.f k a0 = some (r1, r2)) :
    Calls Tryd.prog 45 #[.string a0] w fun e w' => e = .returned (.tuple #[.int .i64 r1, .bool r2]) ∧ Drawn0 w w' := by
  have H : (if (a0.size : Int) < 1 then (impl_decimal.j0 k a0 true) else (if (a0.size : Int) > 6 then (impl_decimal.j0 k a0 true) else (if (a0.size : Int) > 1 then (if 0 < (a0.size : Int) then (impl_decimal.j0 k a0 ((bt a0 0) == 48)) else (none)) else (impl_decimal.j0 k a0 false)))) = some (r1, r2) := h
  clear h
  have HC2 := Aside0.mk H
  clear H
  go_enter Tryd.func45, Tryd.ntmps45
  go_upto_region 1 with (fail)
  go_cut [23] (fun v23 wc => ∃ (kq : Nat) (x23_1 : Bool), v23 = .bool x23_1 ∧ Aside0 (impl_decimal.j0 kq a0 x23_1 = some (r1, r2)) ∧ Aside0 (kq ≤ k) ∧ Drawn0 w wc)
  case first =>
    have H := HC2.out
    clear HC2
    by_cases c3 : (a0.size : Int) < 1
    · rw [if_pos c3] at H
      have c3b0 : decide ((a0.size : Int) < 1) = true := decide_eq_true c3
      have c3b1 : decide (a0.size < 1) = true := decide_eq_true (by omega)
      clear c3
      (first | rw [c3b0] | (simp only [i64_w, i32_w]; rw [c3b0]) | skip)
      have H' := Aside0.mk H
      clear H
      go_wp2
      go_meet
      case rel => exact ⟨_, (true), (by first | rfl | (simp; done) | (simp [*]; done) | (simp [bne]; done) | (simp [bne, *]; done)), H', ⟨by first | omega | exact Nat.le_refl _⟩, by repeat (first | exact Drawn0.refl _ | apply Drawn0.step)⟩
    · rw [if_neg c3] at H
      have c3b0 : decide ((a0.size : Int) < 1) = false := decide_eq_false c3
      have c3b1 : decide (a0.size < 1) = false := decide_eq_false (by omega)
      clear c3
      (first | rw [c3b0] | (simp only [i64_w, i32_w]; rw [c3b0]) | skip)
      by_cases c4 : (a0.size : Int) > 6
      · rw [if_pos c4] at H
        have c4b0 : decide (6 < (a0.size : Int)) = true := decide_eq_true c4
        have c4b1 : decide (6 < a0.size) = true := decide_eq_true (by omega)
        clear c4
        have H' := Aside0.mk H
        clear H
        go_wp2
        go_meet
        case rel => exact ⟨_, (true), (by first | rfl | (simp; done) | (simp [*]; done) | (simp [bne]; done) | (simp [bne, *]; done)), H', ⟨by first | omega | exact Nat.le_refl _⟩, by repeat (first | exact Drawn0.refl _ | apply Drawn0.step)⟩
      · rw [if_neg c4] at H
        have c4b0 : decide (6 < (a0.size : Int)) = false := decide_eq_false c4
        have c4b1 : decide (6 < a0.size) = false := decide_eq_false (by omega)
        clear c4
        by_cases c5 : (a0.size : Int) > 1
        · rw [if_pos c5] at H
          have c5b0 : decide (1 < (a0.size : Int)) = true := decide_eq_true c5
          have c5b1 : decide (1 < a0.size) = true := decide_eq_true (by omega)
          clear c5
          by_cases c6 : 0 < (a0.size : Int)
          · rw [if_pos c6] at H
            have c6b0 : decide (0 < (a0.size : Int)) = true := decide_eq_true c6
            have c6b1 : decide (0 < a0.size) = true := decide_eq_true (by omega)
            clear c6
            have H' := Aside0.mk H
            clear H
            have p7 : 0 ≤ (0 : Int) := (by omega)
            have q7 : 0 < a0.size := (by have : (0 : Int) < (a0.size : Int) := of_decide_eq_true (by first | (with_reducible assumption) | assumption); omega)
            have hx7 : ∀ h : 0 < a0.size, ((a0[0]'h).toNat : Int) = bt a0 0 := bt_at a0 0
            clear p7
            have qi7 : (0 < (a0.size : Int)) = True := eq_true (of_decide_eq_true (by first | (with_reducible assumption) | assumption))
            replace q7 := eq_true q7
            go_wp2
            go_meet
            case rel => exact ⟨_, (((bt a0 0) == 48)), (by first | rfl | (simp; done) | (simp [*]; done) | (simp [bne]; done) | (simp [bne, *]; done)), H', ⟨by first | omega | exact Nat.le_refl _⟩, by repeat (first | exact Drawn0.refl _ | apply Drawn0.step)⟩
          · rw [if_neg c6] at H
            exact absurd H (by simp)
        · rw [if_neg c5] at H
          have c5b0 : decide (1 < (a0.size : Int)) = false := decide_eq_false c5
          have c5b1 : decide (1 < a0.size) = false := decide_eq_false (by omega)
          clear c5
          have H' := Aside0.mk H
          clear H
          go_wp2
          go_meet
          case rel => exact ⟨_, (false), (by first | rfl | (simp; done) | (simp [*]; done) | (simp [bne]; done) | (simp [bne, *]; done)), H', ⟨by first | omega | exact Nat.le_refl _⟩, by repeat (first | exact Drawn0.refl _ | apply Drawn0.step)⟩
  case rest =>
    clear HC2
    try clear p2
    try clear c3
    try clear c3b0
    try clear c3b1
    try clear c4
    try clear c4b0
    try clear c4b1
    try clear c5
    try clear c5b0
    try clear c5b1
    try clear c6
    try clear c6b0
    try clear c6b1
    try clear p7
    try clear q7
    try clear hx7
    try clear qi7
    try clear p7
    try clear q7
    obtain ⟨kq, x23_1, rfl, HA, HJ1, ⟨mc1, rfl⟩⟩ := hcut
    cases kq with
    | zero => exact absurd HA.out (by simp [impl_decimal.j0])
    | succ kj1 =>
      have H := HA.out
      clear HA
      simp only [impl_decimal.j0] at H
      by_cases c8 : x23_1 = true
      · subst c8
        have H1 : (some (0, false)) = some (r1, r2) := by rw [if_pos rfl] at H; exact H
        clear H
        have H := H1
        clear H1
        simp only [Option.some.injEq, Prod.mk.injEq] at H
        obtain ⟨rfl, rfl⟩ := H
        go_wp2
        go_ret2
        exact ⟨by first | rfl | (simp; done) | (simp [*]; done) | (simp [bne]; done) | (simp [bne, *]; done), by repeat (first | exact Drawn0.refl _ | apply Drawn0.step)⟩
      · replace c8 := Bool.eq_false_iff.mpr c8
        subst c8
        have H1 : (impl_decimal.l0 kj1 a0 0 (a0.size : Int) 0) = some (r1, r2) := by rw [if_neg (show ¬ (false = true) by decide)] at H; exact H
        clear H
        have H := H1
        clear H1
        have H' := Aside0.mk H
        clear H
        go_wp2
        go_loopg [4, 26] kj1 (fun kq v4 v26 w' => ∃ (x4_2 : Int) (x26_2 : Int), v4 = .int .i64 x4_2 ∧ v26 = .int .i64 x26_2 ∧ Aside0 (impl_decimal.l0 kq a0 x4_2 (a0.size : Int) x26_2 = some (r1, r2)) ∧ Aside0 (kq ≤ kj1) ∧ Drawn0 w w')
        case atStart => exact ⟨(0), (0), (by first | rfl | (simp; done) | (simp [*]; done) | (simp [bne]; done) | (simp [bne, *]; done)), (by first | rfl | (simp; done) | (simp [*]; done) | (simp [bne]; done) | (simp [bne, *]; done)), H', ⟨Nat.le_refl _⟩, by repeat (first | exact Drawn0.refl _ | apply Drawn0.step)⟩
        case round =>
          clear H'
          try clear c1
          try clear p2
          try clear c3
          try clear c3b0
          try clear c3b1
          try clear c4
          try clear c4b0
          try clear c4b1
          try clear c5
          try clear c5b0
          try clear c5b1
          try clear c6
          try clear c6b0
          try clear c6b1
          try clear p7
          try clear q7
          try clear hx7
          try clear qi7
          try clear c8
          try clear p2
          try clear p7
          try clear q7
          obtain ⟨x4_2, x26_2, rfl, rfl, HA, HK2, ⟨m2, rfl⟩⟩ := hrel
          cases gk with
          | zero => exact absurd HA.out (by simp [impl_decimal.l0])
          | succ k2 =>
            have H := HA.out
            clear HA
            simp only [impl_decimal.l0] at H
            by_cases c9 : x26_2 < (a0.size : Int)
            · rw [if_pos c9] at H
              have c9b0 : decide (x26_2 < (a0.size : Int)) = true := decide_eq_true c9
              clear c9
              by_cases c10 : 0 ≤ x26_2
              · rw [if_pos c10] at H
                have c10b0 : decide (0 ≤ x26_2) = true := decide_eq_true c10
                clear c10
                by_cases c11 : x26_2 < (a0.size : Int)
                · rw [if_pos c11] at H
                  have c11b0 : decide (x26_2 < (a0.size : Int)) = true := decide_eq_true c11
                  clear c11
                  replace H := Option.bind_eq_some_iff.mp H
                  obtain ⟨t101, A130, H⟩ := H
                  replace H : (if t101 = true then (impl_decimal.l0 k2 a0 (wrap64 ((wrap64 (x4_2 * 10)) + (((bt a0 x26_2) - 48) % 256))) (a0.size : Int) (wrap64 (x26_2 + 1))) else (some (0, false))) = some (r1, r2) := H
                  have A13 := Aside0.mk A130
                  clear A130
                  by_cases c14 : t101 = true
                  · subst c14
                    have H1 : (impl_decimal.l0 k2 a0 (wrap64 ((wrap64 (x4_2 * 10)) + (((bt a0 x26_2) - 48) % 256))) (a0.size : Int) (wrap64 (x26_2 + 1))) = some (r1, r2) := by rw [if_pos rfl] at H; exact H
                    clear H
                    have H := H1
                    clear H1
                    have H' := Aside0.mk H
                    clear H
                    have p12 : 0 ≤ (x26_2 : Int) := of_decide_eq_true (by first | (with_reducible assumption) | assumption)
                    have q12 : x26_2 < (a0.size : Int) := of_decide_eq_true (by first | (with_reducible assumption) | assumption)
                    have hx12 := bt_at a0 x26_2
                    replace p12 := eq_true p12
                    replace q12 := eq_true q12
                    go_wp2_with (first | ((with_reducible refine gate_callee (f := 50) rfl ?_); refine goesL_ (some 32) rfl rfl Tryd.func50 (by kernel_rfl) rfl #[.int .u8 (bt a0 x26_2)] rfl (by (try simp only [List.map_toArray, List.map_cons, List.map_nil]); first | done | rfl | (simp only [List.length_drop, List.length_take]; rfl)) ?_; (with_reducible refine (impl_isDigit.calls (bt a0 x26_2) true _ A13.out).mono ?_); rintro e w' ⟨rfl, ⟨nd, rfl⟩⟩; refine ⟨_, rfl, ?_⟩; have p15 : 0 ≤ (x26_2 : Int) := of_decide_eq_true (by first | (with_reducible assumption) | assumption); have q15 : x26_2 < (a0.size : Int) := of_decide_eq_true (by first | (with_reducible assumption) | assumption); have hx15 := bt_at a0 x26_2; replace p15 := eq_true p15; replace q15 := eq_true q15))
                    go_roundg k2
                    case measure => have := HJ1.out; have := HK2.out; omega
                    case rel => exact ⟨(wrap64 ((wrap64 (x4_2 * 10)) + (((bt a0 x26_2) - 48) % 256))), (wrap64 (x26_2 + 1)), (by first | rfl | (simp; done) | (simp [*]; done) | (simp [bne]; done) | (simp [bne, *]; done)), (by first | rfl | (simp; done) | (simp [*]; done) | (simp [bne]; done) | (simp [bne, *]; done)), H', ⟨by have := HJ1.out; have := HK2.out; omega⟩, by repeat (first | exact Drawn0.refl _ | apply Drawn0.step)⟩
                  · replace c14 := Bool.eq_false_iff.mpr c14
                    subst c14
                    have H1 : (some (0, false)) = some (r1, r2) := by rw [if_neg (show ¬ (false = true) by decide)] at H; exact H
                    clear H
                    have H := H1
                    clear H1
                    simp only [Option.some.injEq, Prod.mk.injEq] at H
                    obtain ⟨rfl, rfl⟩ := H
                    have p12 : 0 ≤ (x26_2 : Int) := of_decide_eq_true (by first | (with_reducible assumption) | assumption)
                    have q12 : x26_2 < (a0.size : Int) := of_decide_eq_true (by first | (with_reducible assumption) | assumption)
                    have hx12 := bt_at a0 x26_2
                    replace p12 := eq_true p12
                    replace q12 := eq_true q12
                    go_wp2_with (first | ((with_reducible refine gate_callee (f := 50) rfl ?_); refine goesL_ (some 32) rfl rfl Tryd.func50 (by kernel_rfl) rfl #[.int .u8 (bt a0 x26_2)] rfl (by (try simp only [List.map_toArray, List.map_cons, List.map_nil]); first | done | rfl | (simp only [List.length_drop, List.length_take]; rfl)) ?_; (with_reducible refine (impl_isDigit.calls (bt a0 x26_2) false _ A13.out).mono ?_); rintro e w' ⟨rfl, ⟨nd, rfl⟩⟩; refine ⟨_, rfl, ?_⟩))
                    go_ret2
                    exact ⟨by first | rfl | (simp; done) | (simp [*]; done) | (simp [bne]; done) | (simp [bne, *]; done), by repeat (first | exact Drawn0.refl _ | apply Drawn0.step)⟩
                · rw [if_neg c11] at H
                  exact absurd H (by simp)
              · rw [if_neg c10] at H
                exact absurd H (by simp)
            · rw [if_neg c9] at H
              have c9b0 : decide (x26_2 < (a0.size : Int)) = false := decide_eq_false c9
              clear c9
              simp only [Option.some.injEq, Prod.mk.injEq] at H
              obtain ⟨rfl, rfl⟩ := H
              go_wp2
              go_ret2
              exact ⟨by first | rfl | (simp; done) | (simp [*]; done) | (simp [bne]; done) | (simp [bne, *]; done), by repeat (first | exact Drawn0.refl _ | apply Drawn0.step)⟩

end Go.Proofs.YtakpkmkjhndpjaaDoor.R

/- impl.readIns and the function that it makes: of every line the instruction that 'readI' reads, or that it is none. -/
namespace Go.Proofs.YtakpkmkjhndpjaaDoor.Q
open Go.RowKit Go.Shelf Go.Proofs.YtakpkmkjhndpjaaDoor.R Go.Proofs.YtakpkmkjhndpjaaDoorW.PrintWords Go.Proofs.YtakpkmkjhndpjaaDoorW.PrintLast
set_option linter.unusedVariables false
set_option linter.unusedSimpArgs false

theorem cut1 (enc : ByteArray → Value) (d : ByteArray) (t e : TypeId) {i : TypeInfo} (ht : Tryd.prog.underlying t = some (.slice e)) (hi : Tryd.prog.info? e = some i) (hsz : i.size = 1) (A : Option Addr) (n c : Nat) (hm : 1 ≤ n) :
    ∃ A' : Option Addr, (∀ W : World, (Instr.slice t (.slice A n c) (some (.int .i64 1)) none none).run Tryd.prog W = .ok (.slice A' (n - 1) (c - 1)) W) ∧
      (∀ (w : World) (xs : List ByteArray), n ≤ c → ReadsOf enc d w A n xs → ReadsOf enc d w A' (n - 1) (xs.drop 1)) ∧ ∀ ad1, A' = some ad1 → ∃ ad, A = some ad ∧ ad1.block = ad.block := by
  refine ⟨if c = 1 then A else A.map (·.add 1), fun W => ?_, fun w xs hc h => h.drop_ 1 hm hc, fun ad1 h => ?_⟩
  · have hel : Tryd.prog.elem t = e := by simp [Program.elem, ht]
    have hu : Tryd.prog.underlying t = some (.slice (Tryd.prog.elem t)) := by rw [hel]; exact ht
    rw [run_slice_l W t A n c hu .i64 1 (by omega) (by omega), hel]
    simp [sizeOf, typeInfo, hi, hsz, sliced, Result.andThen]
  · split at h
    · exact ⟨ad1, h, rfl⟩
    · cases A with
      | none => cases h
      | some ad => cases h; exact ⟨ad, rfl, by simp [Addr.add]⟩
set_option maxHeartbeats 1000000 in
set_option maxRecDepth 100000 in
theorem take.nil (g : Nat) (A : Option Addr) (c : Nat) (w : World) (hc : w.cell? ⟨g, 0, none⟩ = some (.slice A 0 c)) :
    Calls Tryd.prog 44 #[.pointer (some ⟨g, 0, none⟩)] w fun e w' => e = .returned (.tuple #[.int .i64 0, .bool false]) ∧ w' = w := by
  go_enter Tryd.func44, Tryd.ntmps44
  go_wp2
  go_ret2
  exact ⟨rfl, rfl⟩
set_option maxHeartbeats 1000000 in
set_option maxRecDepth 100000 in
theorem take.cons (k : Nat) (g : Nat) (A : Option Addr) (c : Nat) (xs : List ByteArray) (w : World) (hb : w.heap[g]? = some (.cells #[.slice A xs.length c] 48 (0, 0))) (hr : Kd.C Kd.string w A xs.length xs) (hl : xs.length ≤ c) (h0 : 0 < xs.length)
    (v : Int) (ok : Bool) (hd : impl_decimal.f k (rdOf ByteArray.empty xs 0) = some (v, ok)) (ys : List ByteArray) (hys : ys = xs.drop 1) :
    Calls Tryd.prog 44 #[.pointer (some ⟨g, 0, none⟩)] w fun e w' => e = .returned (.tuple #[.int .i64 v, .bool ok]) ∧ ∃ (A1 : Option Addr) (c1 n : Nat), w' = (w.drewN n).setCell ⟨g, 0, none⟩ (.slice A1 ys.length c1) ∧ ys.length ≤ c1 ∧ (∀ w2 : World, ReadsOf Value.string ByteArray.empty w2 A xs.length xs → ReadsOf Value.string ByteArray.empty w2 A1 ys.length ys) ∧ ∀ ad1, A1 = some ad1 → ∃ ad, A = some ad ∧ ad1.block = ad.block := by
  obtain ⟨i0, hi, hz0, hz1, hz2⟩ := info_parts info9
  obtain ⟨A1, hcut0, hA0, hF⟩ := cut1 Value.string ByteArray.empty 48 9 Tryd.underlying48 hi hz1 A xs.length c h0
  have hyl : ys.length = xs.length - 1 := by rw [hys, List.length_drop]
  have hA1 : ∀ w2 : World, ReadsOf Value.string ByteArray.empty w2 A xs.length xs → ReadsOf Value.string ByteArray.empty w2 A1 ys.length ys := by
    intro w2 h
    have h2 := hA0 w2 xs hl h
    rw [← hyl, ← hys] at h2
    exact h2
  have hC1 : ys.length ≤ c - 1 := by omega
  have hcut : ∀ W : World, (Instr.slice 48 (.slice A xs.length c) (some (.int .i64 1)) none none).run Tryd.prog W = .ok (.slice A1 ys.length (c - 1)) W := by
    intro W
    rw [hyl]
    exact hcut0 W
  obtain ⟨c1, hc1⟩ : ∃ c1, c1 = c - 1 := ⟨_, rfl⟩
  rw [← hc1] at hcut hC1
  obtain ⟨ad, e, hx⟩ := Kd.at_string hr 0 (by omega) (by omega)
  subst e
  have HA := Aside0.mk hA1
  have HF := Aside0.mk hF
  have HC := Aside0.mk hC1
  have HD := Aside0.mk hd
  have hg0 : w.cell? ⟨g, 0, none⟩ = some (.slice (some ad) xs.length c) := (blk_cell hb 0).trans rfl
  have hgf := blk_frozen hb 0
  have hn1 : ((xs.length : Int) == 0) = false := beq_eq_false_iff_ne.mpr (by omega)
  have hn2 : (xs.length == 0) = false := beq_eq_false_iff_ne.mpr (by omega)
  have hn3 : (0 < xs.length) = True := eq_true h0
  have hn4 : ((0 : Int) < (xs.length : Int)) = True := eq_true (by omega)
  obtain ⟨x0, hx0⟩ : ∃ x0, x0 = rdOf ByteArray.empty xs 0 := ⟨_, rfl⟩
  rw [← hx0] at hx HD
  have hx9 : w.cell? ad = some (.string x0) := by rw [show (Int.toNat 0) = 0 from rfl, Addr.add_zero'] at hx; exact hx
  clear hcut0 hx hA1 hA0 hF hyl hC1 hd hys hb hr hl h0 hc1 hx0 hi hz0 hz1 hz2
  go_enter Tryd.func44, Tryd.ntmps44
  go_wp2_with fail
  refine (impl_decimal.calls k x0 v ok _ HD.out).mono ?_
  rintro e w1 ⟨rfl, hd⟩
  obtain ⟨nd, rfl⟩ := hd.out
  clear hd
  have hg1 : (w.drewN nd).cell? ⟨g, 0, none⟩ = some (.slice (some ad) xs.length c) := hg0
  have hgf1 : (w.drewN nd).frozen? ⟨g, 0, none⟩ = false := hgf
  go_wp2_with fail
  go_ret2
  exact ⟨rfl, A1, c1, nd, rfl, HC.out, HA.out, HF.out⟩
/-- what readIns holds on its way: its result's cells, the words that are left, the instruction so far -/
structure RS (w0 w : World) (g2 g4 g5 : Nat) (A : Option Addr) (c : Nat) (ys : List ByteArray) (op n tt : Int) : Prop where
  b2 : w.heap[g2]? = some (.cells #[.int .i64 0, .int .i64 0, .int .i64 0] 38 (0, 0))
  b4 : w.heap[g4]? = some (.cells #[.slice A ys.length c] 48 (0, 0))
  b5 : w.heap[g5]? = some (.cells #[.int .i64 op, .int .i64 n, .int .i64 tt] 38 (0, 0))
  rd : ReadsOf Value.string ByteArray.empty w A ys.length ys
  f2 : ∀ ad, A = some ad → 0 < ys.length → ad.block ≠ g2
  f4 : ∀ ad, A = some ad → 0 < ys.length → ad.block ≠ g4
  f5 : ∀ ad, A = some ad → 0 < ys.length → ad.block ≠ g5
  le : ys.length ≤ c
  be : Below w0.heap.size w0 w
  l2 : w0.heap.size ≤ g2
  l4 : w0.heap.size ≤ g4
  l5 : w0.heap.size ≤ g5
  n24 : g2 ≠ g4
  n25 : g2 ≠ g5
  n45 : g4 ≠ g5
theorem RS.below {w0 w w' : World} {g2 g4 g5 : Nat} {A : Option Addr} {c : Nat} {ys : List ByteArray} {op n tt : Int} (h : RS w0 w g2 g4 g5 A c ys op n tt) (hb : Below w.heap.size w w') : RS w0 w' g2 g4 g5 A c ys op n tt :=
  ⟨blk_below h.b2 hb, blk_below h.b4 hb, blk_below h.b5 hb, h.rd.below hb, h.f2, h.f4, h.f5, h.le, below_step h.be hb, h.l2, h.l4, h.l5, h.n24, h.n25, h.n45⟩
theorem RS.drewN {w0 w : World} {g2 g4 g5 : Nat} {A : Option Addr} {c : Nat} {ys : List ByteArray} {op n tt : Int} (h : RS w0 w g2 g4 g5 A c ys op n tt) (m : Nat) : RS w0 (w.drewN m) g2 g4 g5 A c ys op n tt := h.below (pw_below_drewN (Below.refl _ _) m)
theorem below_set5 {w0 w : World} (h : Below w0.heap.size w0 w) {g : Nat} (hg : w0.heap.size ≤ g) (j : Nat) (u : Value) : Below w0.heap.size w0 (w.setCell ⟨g, j, none⟩ u) := h.setCell hg _
theorem RS.set5 {w0 w : World} {g2 g4 g5 : Nat} {A : Option Addr} {c : Nat} {ys : List ByteArray} {op n tt op' n' tt' : Int} (h : RS w0 w g2 g4 g5 A c ys op n tt) (j : Nat) (u : Value)
    (e : (#[.int .i64 op, .int .i64 n, .int .i64 tt] : Array Value).setIfInBounds j u = #[.int .i64 op', .int .i64 n', .int .i64 tt']) : RS w0 (w.setCell ⟨g5, j, none⟩ u) g2 g4 g5 A c ys op' n' tt' :=
  ⟨blk_far h.b2 (p := ⟨g5, j, none⟩) h.n25 u, blk_far h.b4 (p := ⟨g5, j, none⟩) h.n45 u, blk_put h.b5 j u e, h.rd.keep (KeepBut.set_ (KeepBut.refl w g5 none) j u) h.f5, h.f2, h.f4, h.f5, h.le, below_set5 h.be h.l5 j u, h.l2, h.l4, h.l5, h.n24, h.n25, h.n45⟩
theorem RS.set4 {w0 w : World} {g2 g4 g5 : Nat} {A A1 : Option Addr} {c c1 : Nat} {ys zs : List ByteArray} {op n tt : Int} (h : RS w0 w g2 g4 g5 A c ys op n tt) (hl : zs.length ≤ c1)
    (hr : ∀ w2 : World, ReadsOf Value.string ByteArray.empty w2 A ys.length ys → ReadsOf Value.string ByteArray.empty w2 A1 zs.length zs) (hf : ∀ ad1, A1 = some ad1 → 0 < zs.length → ∃ ad, A = some ad ∧ 0 < ys.length ∧ ad1.block = ad.block) :
    RS w0 (w.setCell ⟨g4, 0, none⟩ (.slice A1 zs.length c1)) g2 g4 g5 A1 c1 zs op n tt := by
  have g : ∀ {q : Nat}, (∀ ad, A = some ad → 0 < ys.length → ad.block ≠ q) → ∀ ad, A1 = some ad → 0 < zs.length → ad.block ≠ q := by
    intro q hq ad he hz
    obtain ⟨ad2, e2, hy, eb⟩ := hf ad he hz
    rw [eb]
    exact hq ad2 e2 hy
  exact ⟨blk_far h.b2 (p := ⟨g4, 0, none⟩) h.n24 _, blk_put h.b4 0 _ rfl, blk_far h.b5 (p := ⟨g4, 0, none⟩) (Ne.symm h.n45) _, hr _ (h.rd.keep (KeepBut.set_ (KeepBut.refl w g4 none) 0 _) h.f4), g h.f2, g h.f4, g h.f5, hl, below_set5 h.be h.l4 0 _, h.l2, h.l4, h.l5, h.n24, h.n25, h.n45⟩
/-- the operation that a word names, as far as i words have been seen -/
def opU (x : ByteArray) : Nat → Int
  | 0 => 0
  | i + 1 => if 0 < i ∧ (rdOf ByteArray.empty words11 (i : Int)).toList = x.toList then (i : Int) else opU x i
/-- the closure, whatever is left -/
theorem take.any (k : Nat) (dec : ByteArray → Int × Bool) {w0 w : World} {g2 g4 g5 : Nat} {A : Option Addr} {c : Nat} {ys : List ByteArray} {op n tt : Int} (h : RS w0 w g2 g4 g5 A c ys op n tt) (hd : ∀ y ∈ ys, impl_decimal.f k y = some (dec y)) :
    Calls Tryd.prog 44 #[.pointer (some ⟨g4, 0, none⟩)] w fun e w' => e = .returned (.tuple #[.int .i64 (if ys = [] then 0 else (dec (rdOf ByteArray.empty ys 0)).1), .bool (if ys = [] then false else (dec (rdOf ByteArray.empty ys 0)).2)]) ∧
      ∃ (A1 : Option Addr) (c1 : Nat), RS w0 w' g2 g4 g5 A1 c1 (ys.drop 1) op n tt := by
  cases ys with
  | nil =>
    refine (take.nil g4 A c w ((blk_cell h.b4 0).trans rfl)).mono ?_
    rintro e w' ⟨rfl, rfl⟩
    exact ⟨rfl, A, c, h⟩
  | cons y ys =>
    have hr : Kd.C Kd.string w A (y :: ys).length (y :: ys) := Kd.C_of_reads h.rd
    refine (take.cons k g4 A c (y :: ys) w h.b4 hr h.le (by simp) (dec y).1 (dec y).2 (hd y List.mem_cons_self) ys rfl).mono ?_
    rintro e w' ⟨rfl, A1, c1, m, rfl, h1, h2, h3⟩
    refine ⟨rfl, A1, c1, (h.drewN m).set4 h1 h2 (fun ad1 he _ => ?_)⟩
    obtain ⟨ad, e1, e2⟩ := h3 ad1 he
    exact ⟨ad, e1, by simp, e2⟩
end Go.Proofs.YtakpkmkjhndpjaaDoor.Q

/-
  DERIVED: THE SHELF's CONTRACTS AT THIS DUMP, IN PLAIN WORDS (tools/lay-plain.mjs out of 'YtakpkmkjhndpjaaDoorShSplit.lean', which tools/lay-shelf.mjs wrote): THE SAME DECLARATIONS UNDER THE SAME NAMES: 'import', 'namespace', 'open', 'def', 'theorem' AND NOTHING ELSE: no command of the shelf's: FOR A HAND-IN. Each laying: the table of numbers ('.._ren') and one theorem, a field a fact of the dump's own or the kernel's comparison; each contract: ONE APPLICATION.
-/
namespace Go.Proofs
open Go.Shelf
def Tryd.lays145_ren : Go.Shelf.Ren := ⟨fun | 145 => 29 | 220 => 42 | 219 => 48 | 217 => 52 | 225 => 53 | 224 => 54 | 267 => 55 | 266 => 63 | 314 => 64 | n => n, fun | 9 => 9 | 4 => 4 | 59 => 59 | 3 => 3 | 5 => 5 | 46 => 77 | 146 => 86 | 51 => 85 | n => n, fun | 1 => 0 | n => n⟩
theorem Tryd.lays145 : Go.Proofs.Lays.n145 Tryd.prog Tryd.lays145_ren := {
  mixed := by kernel_rfl
  f145 := Tryd.func29.trans (congrArg some (by kernel_rfl))
  f217 := Tryd.func52.trans (congrArg some (by kernel_rfl))
  f219 := Tryd.func48.trans (congrArg some (by kernel_rfl))
  f220 := Tryd.func42.trans (congrArg some (by kernel_rfl))
  f224 := Tryd.func54.trans (congrArg some (by kernel_rfl))
  f225 := Tryd.func53.trans (congrArg some (by kernel_rfl))
  f266 := Tryd.func63.trans (congrArg some (by kernel_rfl))
  f267 := Tryd.func55.trans (congrArg some (by kernel_rfl))
  f314 := Tryd.func64.trans (congrArg some (by kernel_rfl))
  t3 := Tryd.underlying3
  a3 := Tryd.isAgg3
  z3 := Tryd.sizeOf3
  v3 := Tryd.zeroValue3
  t4 := Tryd.underlying4
  a4 := Tryd.isAgg4
  z4 := Tryd.sizeOf4
  v4 := Tryd.zeroValue4
  t5 := Tryd.underlying5
  a5 := Tryd.isAgg5
  z5 := Tryd.sizeOf5
  v5 := Tryd.zeroValue5
  t9 := Tryd.underlying9
  a9 := Tryd.isAgg9
  z9 := Tryd.sizeOf9
  v9 := Tryd.zeroValue9
  t46 := Tryd.underlying77
  a46 := Tryd.isAgg77
  z46 := Tryd.sizeOf77
  v46 := Tryd.zeroValue77
  t51 := Tryd.underlying85
  a51 := Tryd.isAgg85
  z51 := Tryd.sizeOf85
  v51 := Tryd.zeroValue85
  t59 := Tryd.underlying59
  a59 := Tryd.isAgg59
  z59 := Tryd.sizeOf59
  v59 := Tryd.zeroValue59
  t146 := Tryd.underlying86
  a146 := Tryd.isAgg86
  z146 := Tryd.sizeOf86
  v146 := Tryd.zeroValue86
  g1 := by kernel_rfl }
open Go.RowKit Go.Lib in
/-- strings.Cut: "Cut slices s around the first instance of sep, returning the text before and after sep. The found result reports whether sep appears in s. If sep does not appear in s, cut returns s, "", false.": IT RETURNS 'Lib.cut s sep'; the world is as it was but for the count of draws. (LAID: no walk: one application.) -/
theorem Tryd.strings_Cut (s sep : ByteArray) (m : Int) (w : World) (hs : s.size < 4294967281) (hm : w.cell? ⟨0, 0, none⟩ = some (.int .i64 m)) :
    Calls Tryd.prog 29 #[.string s, .string sep] w fun e w' => e = .returned (.tuple #[.string ⟨(Lib.cut s.data.toList sep.data.toList).1.toArray⟩, .string ⟨(Lib.cut s.data.toList sep.data.toList).2.1.toArray⟩, .bool (Lib.cut s.data.toList sep.data.toList).2.2]) ∧ ∃ n, w' = w.drewN n := Any.strings_Cut Tryd.lays145 s sep m w hs hm
def Tryd.lays146_ren : Go.Shelf.Ren := ⟨fun | 146 => 43 | 221 => 49 | 268 => 56 | 138 => 57 | 143 => 58 | 195 => 65 | 197 => 66 | 218 => 67 | 219 => 48 | 260 => 73 | 217 => 52 | 225 => 53 | 224 => 54 | 267 => 55 | 266 => 63 | 314 => 64 | n => n, fun | 9 => 9 | 31 => 48 | 3 => 3 | 4 => 4 | 0 => 0 | 105 => 89 | 21 => 21 | 5 => 5 | 46 => 77 | 119 => 96 | 139 => 99 | 138 => 98 | 146 => 86 | 51 => 85 | n => n, fun | 1 => 0 | 3 => 2 | 4 => 3 | n => n⟩
theorem Tryd.lays146 : Go.Proofs.Lays.n146 Tryd.prog Tryd.lays146_ren := {
  mixed := by kernel_rfl
  f138 := Tryd.func57.trans (congrArg some (by kernel_rfl))
  f143 := Tryd.func58.trans (congrArg some (by kernel_rfl))
  f146 := Tryd.func43.trans (congrArg some (by kernel_rfl))
  f195 := Tryd.func65.trans (congrArg some (by kernel_rfl))
  f197 := Tryd.func66.trans (congrArg some (by kernel_rfl))
  f217 := Tryd.func52.trans (congrArg some (by kernel_rfl))
  f218 := Tryd.func67.trans (congrArg some (by kernel_rfl))
  f219 := Tryd.func48.trans (congrArg some (by kernel_rfl))
  f221 := Tryd.func49.trans (congrArg some (by kernel_rfl))
  f224 := Tryd.func54.trans (congrArg some (by kernel_rfl))
  f225 := Tryd.func53.trans (congrArg some (by kernel_rfl))
  f260 := Tryd.func73.trans (congrArg some (by kernel_rfl))
  f266 := Tryd.func63.trans (congrArg some (by kernel_rfl))
  f267 := Tryd.func55.trans (congrArg some (by kernel_rfl))
  f268 := Tryd.func56.trans (congrArg some (by kernel_rfl))
  f314 := Tryd.func64.trans (congrArg some (by kernel_rfl))
  t0 := Tryd.underlying0
  a0 := Tryd.isAgg0
  z0 := Tryd.sizeOf0
  v0 := Tryd.zeroValue0
  t3 := Tryd.underlying3
  a3 := Tryd.isAgg3
  z3 := Tryd.sizeOf3
  v3 := Tryd.zeroValue3
  t4 := Tryd.underlying4
  a4 := Tryd.isAgg4
  z4 := Tryd.sizeOf4
  v4 := Tryd.zeroValue4
  t5 := Tryd.underlying5
  a5 := Tryd.isAgg5
  z5 := Tryd.sizeOf5
  v5 := Tryd.zeroValue5
  t9 := Tryd.underlying9
  a9 := Tryd.isAgg9
  z9 := Tryd.sizeOf9
  v9 := Tryd.zeroValue9
  t21 := Tryd.underlying21
  a21 := Tryd.isAgg21
  z21 := Tryd.sizeOf21
  v21 := Tryd.zeroValue21
  t31 := Tryd.underlying48
  a31 := Tryd.isAgg48
  z31 := Tryd.sizeOf48
  v31 := Tryd.zeroValue48
  t46 := Tryd.underlying77
  a46 := Tryd.isAgg77
  z46 := Tryd.sizeOf77
  v46 := Tryd.zeroValue77
  t51 := Tryd.underlying85
  a51 := Tryd.isAgg85
  z51 := Tryd.sizeOf85
  v51 := Tryd.zeroValue85
  t105 := Tryd.underlying89
  a105 := Tryd.isAgg89
  z105 := Tryd.sizeOf89
  v105 := Tryd.zeroValue89
  t119 := Tryd.underlying96
  a119 := Tryd.isAgg96
  z119 := Tryd.sizeOf96
  t138 := Tryd.underlying98
  a138 := Tryd.isAgg98
  z138 := Tryd.sizeOf98
  v138 := Tryd.zeroValue98
  t139 := Tryd.underlying99
  a139 := Tryd.isAgg99
  z139 := Tryd.sizeOf99
  v139 := Tryd.zeroValue99
  t146 := Tryd.underlying86
  a146 := Tryd.isAgg86
  z146 := Tryd.sizeOf86
  v146 := Tryd.zeroValue86
  g1 := by kernel_rfl
  g3 := by kernel_rfl
  g4 := by kernel_rfl }
open Go.RowKit Go.Lib in
/-- strings.Split. (LAID: no walk: one application.) -/
theorem Tryd.strings_Split (s sep : ByteArray) (m : Int) (w : World) (hs : s.size < 4294967281) (hm : w.cell? ⟨0, 0, none⟩ = some (.int .i64 m)) (h1 : 1 ≤ sep.size) :
    Calls Tryd.prog 43 #[.string s, .string sep] w fun e w' =>
      e = .returned (.slice (some ⟨w.heap.size, 0, none⟩) (Lib.countB s sep + 1) (Lib.countB s sep + 1)) ∧ w' = w.alloc (.cells ((Lib.splitB sep 0 (Lib.countB s sep) s).map Value.string).toArray 9) := Any.strings_Split Tryd.lays146 (by kernel_rfl) s sep m w hs hm h1
end Go.Proofs

/- impl.readIns: of every line the instruction that 'readR' reads out of its words, or that it is none. -/
namespace Go.Proofs.YtakpkmkjhndpjaaDoor.Q
open Go.RowKit Go.Shelf Go.Proofs.YtakpkmkjhndpjaaDoor.R Go.Proofs.YtakpkmkjhndpjaaDoorW.PrintWords Go.Proofs.YtakpkmkjhndpjaaDoorW.PrintLast
set_option linter.unusedVariables false
set_option linter.unusedSimpArgs false

def takeV (dec : ByteArray → Int × Bool) (ys : List ByteArray) : Int := if ys = [] then 0 else (dec (rdOf ByteArray.empty ys 0)).1
def takeB (dec : ByteArray → Int × Bool) (ys : List ByteArray) : Bool := if ys = [] then false else (dec (rdOf ByteArray.empty ys 0)).2
def wordsOf (s : ByteArray) : List ByteArray := Lib.splitB (⟨#[32]⟩ : ByteArray) 0 (Lib.countB s (⟨#[32]⟩ : ByteArray)) s
theorem wordsOf_length (s : ByteArray) : (wordsOf s).length = Lib.countB s (⟨#[32]⟩ : ByteArray) + 1 := Lib.splitB_all _ (by decide) 0 _ _ rfl
theorem row_reads (w : World) (xs : List ByteArray) (hx : xs.length ≤ 9223372036854775807) : ReadsOf Value.string ByteArray.empty (w.alloc (.cells ((xs.map Value.string).toArray) 9)) (some ⟨w.heap.size, 0, none⟩) xs.length xs := by
  refine ⟨rfl, hx, fun _ => ⟨_, rfl, fun j hj => ?_⟩⟩
  have h := blk_new w (.cells ((xs.map Value.string).toArray) 9)
  have e : (⟨w.heap.size, 0, none⟩ : Addr).add j = ⟨w.heap.size, j, none⟩ := by simp [Addr.add]; exact fun h => h.symm
  rw [e, blk_cell h j]
  simp [hj]

theorem RS.start (w : World) (xs : List ByteArray) (hx : xs.length ≤ 9223372036854775807) :
    RS w ((((w.alloc (.cells #[.int .i64 0, .int .i64 0, .int .i64 0] 38)).alloc (.cells ((xs.map Value.string).toArray) 9)).alloc (.cells #[.slice (some ⟨w.heap.size + 1, 0, none⟩) xs.length xs.length] 48)).alloc (.cells #[.int .i64 0, .int .i64 0, .int .i64 0] 38))
      w.heap.size (w.heap.size + 1 + 1) (w.heap.size + 1 + 1 + 1) (some ⟨w.heap.size + 1, 0, none⟩) xs.length xs 0 0 0 := by
  have z1 : (w.alloc (.cells #[.int .i64 0, .int .i64 0, .int .i64 0] 38)).heap.size = w.heap.size + 1 := by simp
  have z2 : ((w.alloc (.cells #[.int .i64 0, .int .i64 0, .int .i64 0] 38)).alloc (.cells ((xs.map Value.string).toArray) 9)).heap.size = w.heap.size + 1 + 1 := by simp
  have z3 : (((w.alloc (.cells #[.int .i64 0, .int .i64 0, .int .i64 0] 38)).alloc (.cells ((xs.map Value.string).toArray) 9)).alloc (.cells #[.slice (some ⟨w.heap.size + 1, 0, none⟩) xs.length xs.length] 48)).heap.size = w.heap.size + 1 + 1 + 1 := by simp
  have b2 := blk_new w (.cells #[.int .i64 0, .int .i64 0, .int .i64 0] 38)
  have rr := row_reads (w.alloc (.cells #[.int .i64 0, .int .i64 0, .int .i64 0] 38)) xs hx
  rw [z1] at rr
  have b4 := blk_new ((w.alloc (.cells #[.int .i64 0, .int .i64 0, .int .i64 0] 38)).alloc (.cells ((xs.map Value.string).toArray) 9)) (.cells #[.slice (some ⟨w.heap.size + 1, 0, none⟩) xs.length xs.length] 48)
  rw [z2] at b4
  have b5 := blk_new (((w.alloc (.cells #[.int .i64 0, .int .i64 0, .int .i64 0] 38)).alloc (.cells ((xs.map Value.string).toArray) 9)).alloc (.cells #[.slice (some ⟨w.heap.size + 1, 0, none⟩) xs.length xs.length] 48)) (.cells #[.int .i64 0, .int .i64 0, .int .i64 0] 38)
  rw [z3] at b5
  refine ⟨blk_alloc (blk_alloc (blk_alloc b2 _) _) _, blk_alloc b4 _, b5, (rr.allocS _).allocS _, ?_, ?_, ?_, Nat.le_refl _, below_alloc (below_alloc (below_alloc (below_alloc (Below.refl _ _) _) _) _) _, by omega, by omega, by omega, by omega, by omega, by omega⟩
  all_goals
    intro ad he _
    have : ad = ⟨w.heap.size + 1, 0, none⟩ := (Option.some.inj he).symm
    subst this
    show w.heap.size + 1 ≠ _
    omega
theorem string_eq_dec (a b : ByteArray) : (a.toList = b.toList) ∨ ¬ (a.toList = b.toList) := Classical.em _

/-- what a line's words say: an instruction, and whether they do -/
def readR (dec : ByteArray → Int × Bool) (xs : List ByteArray) : Int × Int × Int × Bool :=
  if opU (rdOf ByteArray.empty xs 0) 11 = 0 then (0, 0, 0, false) else
  if ((if hasNB (opU (rdOf ByteArray.empty xs 0) 11) then takeB dec (xs.drop 1) else true) && jumpsB (opU (rdOf ByteArray.empty xs 0) 11)) = true then
    (opU (rdOf ByteArray.empty xs 0) 11, if hasNB (opU (rdOf ByteArray.empty xs 0) 11) then takeV dec (xs.drop 1) else 0, takeV dec (if hasNB (opU (rdOf ByteArray.empty xs 0) 11) then (xs.drop 1).drop 1 else xs.drop 1),
      takeB dec (if hasNB (opU (rdOf ByteArray.empty xs 0) 11) then (xs.drop 1).drop 1 else xs.drop 1) && (((if hasNB (opU (rdOf ByteArray.empty xs 0) 11) then (xs.drop 1).drop 1 else xs.drop 1).drop 1).length : Int) == 0)
  else (opU (rdOf ByteArray.empty xs 0) 11, if hasNB (opU (rdOf ByteArray.empty xs 0) 11) then takeV dec (xs.drop 1) else 0, 0,
    (if hasNB (opU (rdOf ByteArray.empty xs 0) 11) then takeB dec (xs.drop 1) else true) && ((if hasNB (opU (rdOf ByteArray.empty xs 0) 11) then (xs.drop 1).drop 1 else xs.drop 1).length : Int) == 0)
theorem take.anyV (k : Nat) (dec : ByteArray → Int × Bool) {w0 w : World} {g2 g4 g5 : Nat} {A : Option Addr} {c : Nat} {ys : List ByteArray} {op n tt : Int} (h : RS w0 w g2 g4 g5 A c ys op n tt) (hd : ∀ y, impl_decimal.f k y = some (dec y)) :
    Calls Tryd.prog 44 #[.pointer (some ⟨g4, 0, none⟩)] w fun e w' => e = .returned (.tuple #[.int .i64 (takeV dec ys), .bool (takeB dec ys)]) ∧ ∃ (A1 : Option Addr) (c1 : Nat), RS w0 w' g2 g4 g5 A1 c1 (ys.drop 1) op n tt :=
  take.any k dec h (fun y _ => hd y)
theorem RS.put2 {w0 w : World} {g2 g4 g5 : Nat} {A : Option Addr} {c : Nat} {ys : List ByteArray} {op n tt : Int} (h : RS w0 w g2 g4 g5 A c ys op n tt) (a b d : Int) :
    (((w.setCell ⟨g2, 0, none⟩ (.int .i64 a)).setCell ⟨g2, 1, none⟩ (.int .i64 b)).setCell ⟨g2, 2, none⟩ (.int .i64 d)).heap[g2]? = some (.cells #[.int .i64 a, .int .i64 b, .int .i64 d] 38 (0, 0)) ∧
      Below w0.heap.size w0 (((w.setCell ⟨g2, 0, none⟩ (.int .i64 a)).setCell ⟨g2, 1, none⟩ (.int .i64 b)).setCell ⟨g2, 2, none⟩ (.int .i64 d)) :=
  ⟨blk_put (blk_put (blk_put h.b2 0 _ rfl) 1 _ rfl) 2 _ rfl, below_set5 (below_set5 (below_set5 h.be h.l2 0 _) h.l2 1 _) h.l2 2 _⟩

set_option maxHeartbeats 1000000 in
set_option maxRecDepth 100000 in
theorem impl_readIns.calls (k : Nat) (dec : ByteArray → Int × Bool) (s : ByteArray) (hs : s.size < 4294967281) (m : Int) (w : World) (hm : w.cell? ⟨0, 0, none⟩ = some (.int .i64 m)) (hd : ∀ y, impl_decimal.f k y = some (dec y)) :
    Calls Tryd.prog 30 #[.string s] w fun e w' => e = .returned (.tuple #[.agg #[.int .i64 (readR dec (wordsOf s)).1, .int .i64 (readR dec (wordsOf s)).2.1, .int .i64 (readR dec (wordsOf s)).2.2.1], .bool (readR dec (wordsOf s)).2.2.2]) ∧ Below w.heap.size w w' := by
  obtain ⟨xs, hxs⟩ : ∃ xs, xs = wordsOf s := ⟨_, rfl⟩
  have hxl : xs.length = Lib.countB s (⟨#[32]⟩ : ByteArray) + 1 := by rw [hxs, wordsOf_length]
  have XS := Aside0.mk hxs
  have XL := Aside0.mk hxl
  have HS := Aside0.mk hs
  have HM := Aside0.mk hm
  have HD := Aside0.mk hd
  clear hxs hxl hs hm hd
  go_enter Tryd.func30, Tryd.ntmps30
  go_wp2_with fail
  refine (Tryd.strings_Split s (⟨#[32]⟩ : ByteArray) m _ HS.out ?_ (by decide)).mono ?_
  · exact ((below_alloc (Below.refl w.heap.size w) _).cell (World.block_lt_of_cell? w _ HM.out)).trans HM.out
  rintro e w1 ⟨rfl, rfl⟩
  rw [show Lib.splitB (⟨#[32]⟩ : ByteArray) 0 (Lib.countB s (⟨#[32]⟩ : ByteArray)) s = xs from XS.out.symm, ← XL.out]
  go_wp2_with fail
  refine (impl_insWords.calls words11 _ words11_is).mono ?_
  rintro e w2 ⟨v0, rfl, hR, hb⟩
  have R0 := Aside0.mk ((RS.start w xs (by have := XL.out; have := Lib.countB_le (⟨#[32]⟩ : ByteArray) (by decide) s.size s (Nat.le_refl _); have := HS.out; omega)).below hb)
  obtain ⟨aw, cw, rfl⟩ := Kd.R_slice1 hR (by decide)
  have hwb := Kd.R_base hR aw.block rfl
  have W0 := Aside0.mk (Kd.reads_of_C (d := ByteArray.empty) (h1 := fun _ => rfl) (Kd.R_reads' hR).2.2)
  have hne : aw.block ≠ w.heap.size + 1 + 1 + 1 := by
    have : (((((w.alloc (.cells #[.int .i64 0, .int .i64 0, .int .i64 0] 38)).alloc (.cells ((xs.map Value.string).toArray) 9)).alloc (.cells #[.slice (some ⟨w.heap.size + 1, 0, none⟩) xs.length xs.length] 48)).alloc (.cells #[.int .i64 0, .int .i64 0, .int .i64 0] 38)).heap.size) = w.heap.size + 1 + 1 + 1 + 1 := by simp
    omega
  have NE := Aside0.mk hne
  clear hR hb hwb hne
  generalize w.heap.size + 1 + 1 + 1 = g5 at *
  generalize w.heap.size + 1 + 1 = g4 at *
  generalize hA : (some ⟨w.heap.size + 1, 0, none⟩ : Option Addr) = A0 at *
  clear hA
  obtain ⟨x0, hx0⟩ : ∃ x, x = rdOf ByteArray.empty xs 0 := ⟨_, rfl⟩
  have X0 := Aside0.mk hx0
  clear hx0
  go_wp2_with fail
  go_loopg [14] 11 (fun kq v14 w' => ∃ i : Nat, v14 = .int .i64 i ∧ Aside0 (i + kq = 11) ∧ Aside0 (RS w w' w.heap.size g4 g5 A0 xs.length xs (opU x0 i) 0 0) ∧ Aside0 (ReadsOf Value.string ByteArray.empty w' (some aw) 11 words11))
  case atStart => exact ⟨0, rfl, ⟨rfl⟩, R0, W0⟩
  case round =>
    obtain ⟨i, rfl, HK, R1, W1⟩ := hrel
    by_cases hi : i < 11
    · cases gk with
      | zero => exact absurd HK.out (by omega)
      | succ k1 =>
        have p : 0 ≤ (i : Int) := Int.natCast_nonneg i
        have q : (i : Int) < ((11 : Nat) : Int) := by omega
        obtain ⟨ad, e, hw0⟩ := W1.out.at_ (i : Int) p q
        cases e
        rw [Int.toNat_natCast] at hw0
        replace p := eq_true p
        replace q := eq_true q
        have hlen : words11.length = 11 := rfl
        obtain ⟨nm, hnm⟩ : ∃ x, x = rdOf ByteArray.empty words11 (i : Int) := ⟨_, rfl⟩
        rw [← hnm] at hw0
        have NM := Aside0.mk hnm
        clear hnm
        have hx1 := R1.out.rd.at_ 0 (by omega) (by have := XL.out; omega)
        obtain ⟨ad0, e0, hx1⟩ := hx1
        subst e0
        rw [← X0.out, show (Int.toNat 0) = 0 from rfl, Addr.add_zero'] at hx1
        have h40 : wr.cell? ⟨g4, 0, none⟩ = some (.slice (some ad0) xs.length xs.length) := (blk_cell R1.out.b4 0).trans rfl
        have h5f := blk_frozen R1.out.b5 0
        have hpos : ((0 : Int) < (xs.length : Int)) = True := eq_true (by have := XL.out; omega)
        have hpos2 : (0 < xs.length) = True := eq_true (by have := XL.out; omega)
        have hil : (i < words11.length) = True := eq_true (by rw [hlen]; exact hi)
        have hil2 : ((i : Int) < (words11.length : Int)) = True := eq_true (by rw [hlen]; omega)
        have h50 : wr.cell? ⟨g5, 0, none⟩ = some (.int .i64 (opU x0 i)) := (blk_cell R1.out.b5 0).trans rfl
        clear hlen
        by_cases h0 : i = 0
        · have hd0 : decide (0 < i) = false := decide_eq_false (by omega)
          have hd1 : decide ((0 : Int) < (i : Int)) = false := decide_eq_false (by omega)
          have HI0 := Aside0.mk h0
          clear h0
          go_wp2_with fail
          go_roundg k1
          case measure => have := HK.out; omega
          case rel => exact ⟨i + 1, by go_num, ⟨by have := HK.out; omega⟩, ⟨by rw [show opU x0 (i + 1) = opU x0 i from if_neg (fun e => absurd e.1 (by have := HI0.out; omega))]; exact R1.out⟩, W1⟩
        · have hd0 : decide (0 < i) = true := decide_eq_true (by omega)
          have HI0 := Aside0.mk h0
          have hd1 : decide ((0 : Int) < (i : Int)) = true := decide_eq_true (by omega)
          clear h0
          by_cases hm : nm.toList = x0.toList
          · have MM := Aside0.mk hm
            have hmB : (nm.toList == x0.toList) = true := beq_iff_eq.mpr hm
            clear hm
            go_wp2_with fail
            go_roundg k1
            case measure => have := HK.out; omega
            case rel =>
              refine ⟨i + 1, by go_num, ⟨by have := HK.out; omega⟩, ⟨?_⟩, ⟨W1.out.keep (KeepBut.set_ (KeepBut.refl wr g5 none) 0 _) (fun ad e _ => by cases e; exact NE.out)⟩⟩
              rw [show opU x0 (i + 1) = (i : Int) from if_pos ⟨by have := HI0.out; omega, by rw [← NM.out]; exact MM.out⟩]
              exact R1.out.set5 0 _ rfl
          · have MM := Aside0.mk hm
            have hmB : (nm.toList == x0.toList) = false := beq_eq_false_iff_ne.mpr hm
            clear hm
            go_wp2_with fail
            go_roundg k1
            case measure => have := HK.out; omega
            case rel => exact ⟨i + 1, by go_num, ⟨by have := HK.out; omega⟩, ⟨by rw [show opU x0 (i + 1) = opU x0 i from if_neg (fun e => MM.out (by rw [NM.out]; exact e.2))]; exact R1.out⟩, W1⟩
    · have h11 : i = 11 := by have := HK.out; omega
      subst h11
      obtain ⟨op, hop⟩ : ∃ x, x = opU x0 11 := ⟨_, rfl⟩
      rw [← hop] at R1
      have hf : decide (11 < words11.length) = false := by decide
      have hf2 : decide ((11 : Int) < (words11.length : Int)) = false := by decide
      have OP := Aside0.mk (show opU (rdOf ByteArray.empty (wordsOf s) 0) 11 = op by rw [hop, X0.out, ← XS.out])
      clear hop hi W1
      by_cases hz : op = 0
      · have hzB : (op == 0) = true := beq_iff_eq.mpr hz
        have c4_1 : wr.cell? ⟨g4, 0, none⟩ = some (.slice A0 xs.length xs.length) := (blk_cell R1.out.b4 0).trans rfl
        have f4_1 : wr.frozen? ⟨g4, 0, none⟩ = false := blk_frozen R1.out.b4 0
        have c5_1_0 : wr.cell? ⟨g5, 0, none⟩ = some (.int .i64 op) := (blk_cell R1.out.b5 0).trans rfl
        have f5_1_0 : wr.frozen? ⟨g5, 0, none⟩ = false := blk_frozen R1.out.b5 0
        have c2_1_0 : wr.cell? ⟨w.heap.size, 0, none⟩ = some (.int .i64 0) := (blk_cell R1.out.b2 0).trans rfl
        have f2_1_0 : wr.frozen? ⟨w.heap.size, 0, none⟩ = false := blk_frozen R1.out.b2 0
        have c5_1_1 : wr.cell? ⟨g5, 1, none⟩ = some (.int .i64 0) := (blk_cell R1.out.b5 1).trans rfl
        have f5_1_1 : wr.frozen? ⟨g5, 1, none⟩ = false := blk_frozen R1.out.b5 1
        have c2_1_1 : wr.cell? ⟨w.heap.size, 1, none⟩ = some (.int .i64 0) := (blk_cell R1.out.b2 1).trans rfl
        have f2_1_1 : wr.frozen? ⟨w.heap.size, 1, none⟩ = false := blk_frozen R1.out.b2 1
        have c5_1_2 : wr.cell? ⟨g5, 2, none⟩ = some (.int .i64 0) := (blk_cell R1.out.b5 2).trans rfl
        have f5_1_2 : wr.frozen? ⟨g5, 2, none⟩ = false := blk_frozen R1.out.b5 2
        have c2_1_2 : wr.cell? ⟨w.heap.size, 2, none⟩ = some (.int .i64 0) := (blk_cell R1.out.b2 2).trans rfl
        have f2_1_2 : wr.frozen? ⟨w.heap.size, 2, none⟩ = false := blk_frozen R1.out.b2 2
        have HZ := Aside0.mk hz
        clear hz
        have P := Aside0.mk (R1.out.put2 0 0 0)
        go_wp2_with fail
        refine bodyPost_ret (results_ct rfl _ _ w.heap.size 38 #[.int .i64 0, .int .i64 0, .int .i64 0] (0, 0) _ rfl P.out.1 Tryd.underlying38 rfl (by kernel_rfl)) rfl ?_
        have e : readR dec (wordsOf s) = (0, 0, 0, false) := by unfold readR; rw [OP.out, if_pos HZ.out]
        rw [e]
        exact ⟨rfl, P.out.2⟩
      · have hzB : (op == 0) = false := beq_eq_false_iff_ne.mpr hz
        have HZ := Aside0.mk hz
        clear hz
        obtain ⟨i0, hi0, hz0, hz1, hz2⟩ := info_parts info9
        have h1 : 1 ≤ xs.length := by have := XL.out; omega
        obtain ⟨A1, hcut0, hA0, hF0⟩ := cut1 Value.string ByteArray.empty 48 9 Tryd.underlying48 hi0 hz1 A0 xs.length xs.length h1
        obtain ⟨ys, hys⟩ : ∃ ys, ys = xs.drop 1 := ⟨_, rfl⟩
        have hyl : ys.length = xs.length - 1 := by rw [hys, List.length_drop]
        obtain ⟨c1, hc1⟩ : ∃ c1, c1 = xs.length - 1 := ⟨_, rfl⟩
        have hcut : ∀ W : World, (Instr.slice 48 (.slice A0 xs.length xs.length) (some (.int .i64 1)) none none).run Tryd.prog W = .ok (.slice A1 ys.length c1) W := by
          intro W
          rw [hyl, hc1]
          exact hcut0 W
        have R2 := Aside0.mk (R1.out.set4 (zs := ys) (A1 := A1) (c1 := c1) (by omega) (fun w2 h => by have h2 := hA0 w2 xs (Nat.le_refl _) h; rw [← hyl, ← hys] at h2; exact h2) (fun ad1 he hz => by obtain ⟨ad, e1, e2⟩ := hF0 ad1 he; exact ⟨ad, e1, by omega, e2⟩))
        have YS := Aside0.mk (show (wordsOf s).drop 1 = ys by rw [← XS.out, hys])
        clear hcut0 hA0 hF0 hyl hc1 hi0 hz0 hz1 hz2 h1 hys
        have c4_1 : wr.cell? ⟨g4, 0, none⟩ = some (.slice A0 xs.length xs.length) := (blk_cell R1.out.b4 0).trans rfl
        have f4_1 : wr.frozen? ⟨g4, 0, none⟩ = false := blk_frozen R1.out.b4 0
        have c5_1_0 : wr.cell? ⟨g5, 0, none⟩ = some (.int .i64 op) := (blk_cell R1.out.b5 0).trans rfl
        have f5_1_0 : wr.frozen? ⟨g5, 0, none⟩ = false := blk_frozen R1.out.b5 0
        have c2_1_0 : wr.cell? ⟨w.heap.size, 0, none⟩ = some (.int .i64 0) := (blk_cell R1.out.b2 0).trans rfl
        have f2_1_0 : wr.frozen? ⟨w.heap.size, 0, none⟩ = false := blk_frozen R1.out.b2 0
        have c5_1_1 : wr.cell? ⟨g5, 1, none⟩ = some (.int .i64 0) := (blk_cell R1.out.b5 1).trans rfl
        have f5_1_1 : wr.frozen? ⟨g5, 1, none⟩ = false := blk_frozen R1.out.b5 1
        have c2_1_1 : wr.cell? ⟨w.heap.size, 1, none⟩ = some (.int .i64 0) := (blk_cell R1.out.b2 1).trans rfl
        have f2_1_1 : wr.frozen? ⟨w.heap.size, 1, none⟩ = false := blk_frozen R1.out.b2 1
        have c5_1_2 : wr.cell? ⟨g5, 2, none⟩ = some (.int .i64 0) := (blk_cell R1.out.b5 2).trans rfl
        have f5_1_2 : wr.frozen? ⟨g5, 2, none⟩ = false := blk_frozen R1.out.b5 2
        have c2_1_2 : wr.cell? ⟨w.heap.size, 2, none⟩ = some (.int .i64 0) := (blk_cell R1.out.b2 2).trans rfl
        have f2_1_2 : wr.frozen? ⟨w.heap.size, 2, none⟩ = false := blk_frozen R1.out.b2 2
        have c4_2 : (wr.setCell ⟨g4, 0, none⟩ (.slice A1 ys.length c1)).cell? ⟨g4, 0, none⟩ = some (.slice A1 ys.length c1) := (blk_cell R2.out.b4 0).trans rfl
        have f4_2 : (wr.setCell ⟨g4, 0, none⟩ (.slice A1 ys.length c1)).frozen? ⟨g4, 0, none⟩ = false := blk_frozen R2.out.b4 0
        have c5_2_0 : (wr.setCell ⟨g4, 0, none⟩ (.slice A1 ys.length c1)).cell? ⟨g5, 0, none⟩ = some (.int .i64 op) := (blk_cell R2.out.b5 0).trans rfl
        have f5_2_0 : (wr.setCell ⟨g4, 0, none⟩ (.slice A1 ys.length c1)).frozen? ⟨g5, 0, none⟩ = false := blk_frozen R2.out.b5 0
        have c2_2_0 : (wr.setCell ⟨g4, 0, none⟩ (.slice A1 ys.length c1)).cell? ⟨w.heap.size, 0, none⟩ = some (.int .i64 0) := (blk_cell R2.out.b2 0).trans rfl
        have f2_2_0 : (wr.setCell ⟨g4, 0, none⟩ (.slice A1 ys.length c1)).frozen? ⟨w.heap.size, 0, none⟩ = false := blk_frozen R2.out.b2 0
        have c5_2_1 : (wr.setCell ⟨g4, 0, none⟩ (.slice A1 ys.length c1)).cell? ⟨g5, 1, none⟩ = some (.int .i64 0) := (blk_cell R2.out.b5 1).trans rfl
        have f5_2_1 : (wr.setCell ⟨g4, 0, none⟩ (.slice A1 ys.length c1)).frozen? ⟨g5, 1, none⟩ = false := blk_frozen R2.out.b5 1
        have c2_2_1 : (wr.setCell ⟨g4, 0, none⟩ (.slice A1 ys.length c1)).cell? ⟨w.heap.size, 1, none⟩ = some (.int .i64 0) := (blk_cell R2.out.b2 1).trans rfl
        have f2_2_1 : (wr.setCell ⟨g4, 0, none⟩ (.slice A1 ys.length c1)).frozen? ⟨w.heap.size, 1, none⟩ = false := blk_frozen R2.out.b2 1
        have c5_2_2 : (wr.setCell ⟨g4, 0, none⟩ (.slice A1 ys.length c1)).cell? ⟨g5, 2, none⟩ = some (.int .i64 0) := (blk_cell R2.out.b5 2).trans rfl
        have f5_2_2 : (wr.setCell ⟨g4, 0, none⟩ (.slice A1 ys.length c1)).frozen? ⟨g5, 2, none⟩ = false := blk_frozen R2.out.b5 2
        have c2_2_2 : (wr.setCell ⟨g4, 0, none⟩ (.slice A1 ys.length c1)).cell? ⟨w.heap.size, 2, none⟩ = some (.int .i64 0) := (blk_cell R2.out.b2 2).trans rfl
        have f2_2_2 : (wr.setCell ⟨g4, 0, none⟩ (.slice A1 ys.length c1)).frozen? ⟨w.heap.size, 2, none⟩ = false := blk_frozen R2.out.b2 2
        have hmf : ∀ (fn : Fn) (first cap : Array Value) (W : World), (Instr.makeFunc fn first cap).run Tryd.prog W = .ok (.func fn first cap) W := fun _ _ _ _ => rfl
        have HN := Aside0.mk (hasN_is op)
        have HJ := Aside0.mk (jumps_is op)
        cases hN : hasNB op with
        | false =>
          have EN := Aside0.mk hN
          clear hN
          cases hJ : jumpsB op with
          | false =>
            have EJ := Aside0.mk hJ
            clear hJ
            go_wp2_with fail
            refine (impl_hasN.calls op false _ (HN.out.trans (congrArg some EN.out))).mono ?_
            rintro e w3 ⟨rfl, hd⟩
            obtain ⟨nd, rfl⟩ := hd.out
            clear hd hcut
            have R3 := Aside0.mk (R2.out.drewN nd)
            clear c4_1 f4_1 c5_1_0 f5_1_0 c2_1_0 f2_1_0 c5_1_1 f5_1_1 c2_1_1 f2_1_1 c5_1_2 f5_1_2 c2_1_2 f2_1_2
            clear c4_2 f4_2 c5_2_0 f5_2_0 c2_2_0 f2_2_0 c5_2_1 f5_2_1 c2_2_1 f2_2_1 c5_2_2 f5_2_2 c2_2_2 f2_2_2
            obtain ⟨w3, hw3⟩ : ∃ v, v = ((wr.setCell ⟨g4, 0, none⟩ (.slice A1 ys.length c1)).drewN nd) := ⟨_, rfl⟩
            rw [← hw3] at R3
            (try rw [← hw3])
            clear hw3
            have c4_3 : w3.cell? ⟨g4, 0, none⟩ = some (.slice A1 ys.length c1) := (blk_cell R3.out.b4 0).trans rfl
            have f4_3 : w3.frozen? ⟨g4, 0, none⟩ = false := blk_frozen R3.out.b4 0
            have c5_3_0 : w3.cell? ⟨g5, 0, none⟩ = some (.int .i64 op) := (blk_cell R3.out.b5 0).trans rfl
            have f5_3_0 : w3.frozen? ⟨g5, 0, none⟩ = false := blk_frozen R3.out.b5 0
            have c2_3_0 : w3.cell? ⟨w.heap.size, 0, none⟩ = some (.int .i64 0) := (blk_cell R3.out.b2 0).trans rfl
            have f2_3_0 : w3.frozen? ⟨w.heap.size, 0, none⟩ = false := blk_frozen R3.out.b2 0
            have c5_3_1 : w3.cell? ⟨g5, 1, none⟩ = some (.int .i64 0) := (blk_cell R3.out.b5 1).trans rfl
            have f5_3_1 : w3.frozen? ⟨g5, 1, none⟩ = false := blk_frozen R3.out.b5 1
            have c2_3_1 : w3.cell? ⟨w.heap.size, 1, none⟩ = some (.int .i64 0) := (blk_cell R3.out.b2 1).trans rfl
            have f2_3_1 : w3.frozen? ⟨w.heap.size, 1, none⟩ = false := blk_frozen R3.out.b2 1
            have c5_3_2 : w3.cell? ⟨g5, 2, none⟩ = some (.int .i64 0) := (blk_cell R3.out.b5 2).trans rfl
            have f5_3_2 : w3.frozen? ⟨g5, 2, none⟩ = false := blk_frozen R3.out.b5 2
            have c2_3_2 : w3.cell? ⟨w.heap.size, 2, none⟩ = some (.int .i64 0) := (blk_cell R3.out.b2 2).trans rfl
            have f2_3_2 : w3.frozen? ⟨w.heap.size, 2, none⟩ = false := blk_frozen R3.out.b2 2
            go_wp2_with fail
            refine (impl_jumps.calls op false _ (HJ.out.trans (congrArg some EJ.out))).mono ?_
            rintro e w6 ⟨rfl, hd⟩
            obtain ⟨nd6, rfl⟩ := hd.out
            clear hd
            have R6 := Aside0.mk (R3.out.drewN nd6)
            clear c4_3 f4_3 c5_3_0 f5_3_0 c2_3_0 f2_3_0 c5_3_1 f5_3_1 c2_3_1 f2_3_1 c5_3_2 f5_3_2 c2_3_2 f2_3_2
            obtain ⟨w6, hw6⟩ : ∃ v, v = (w3.drewN nd6) := ⟨_, rfl⟩
            rw [← hw6] at R6
            (try rw [← hw6])
            clear hw6
            obtain ⟨zs, hzs⟩ : ∃ zs, zs = ys := ⟨_, rfl⟩
            rw [← hzs] at R6
            have ZS := Aside0.mk hzs
            clear hzs
            have c4_6 : w6.cell? ⟨g4, 0, none⟩ = some (.slice A1 zs.length c1) := (blk_cell R6.out.b4 0).trans rfl
            have f4_6 : w6.frozen? ⟨g4, 0, none⟩ = false := blk_frozen R6.out.b4 0
            have c5_6_0 : w6.cell? ⟨g5, 0, none⟩ = some (.int .i64 op) := (blk_cell R6.out.b5 0).trans rfl
            have f5_6_0 : w6.frozen? ⟨g5, 0, none⟩ = false := blk_frozen R6.out.b5 0
            have c2_6_0 : w6.cell? ⟨w.heap.size, 0, none⟩ = some (.int .i64 0) := (blk_cell R6.out.b2 0).trans rfl
            have f2_6_0 : w6.frozen? ⟨w.heap.size, 0, none⟩ = false := blk_frozen R6.out.b2 0
            have c5_6_1 : w6.cell? ⟨g5, 1, none⟩ = some (.int .i64 0) := (blk_cell R6.out.b5 1).trans rfl
            have f5_6_1 : w6.frozen? ⟨g5, 1, none⟩ = false := blk_frozen R6.out.b5 1
            have c2_6_1 : w6.cell? ⟨w.heap.size, 1, none⟩ = some (.int .i64 0) := (blk_cell R6.out.b2 1).trans rfl
            have f2_6_1 : w6.frozen? ⟨w.heap.size, 1, none⟩ = false := blk_frozen R6.out.b2 1
            have c5_6_2 : w6.cell? ⟨g5, 2, none⟩ = some (.int .i64 0) := (blk_cell R6.out.b5 2).trans rfl
            have f5_6_2 : w6.frozen? ⟨g5, 2, none⟩ = false := blk_frozen R6.out.b5 2
            have c2_6_2 : w6.cell? ⟨w.heap.size, 2, none⟩ = some (.int .i64 0) := (blk_cell R6.out.b2 2).trans rfl
            have f2_6_2 : w6.frozen? ⟨w.heap.size, 2, none⟩ = false := blk_frozen R6.out.b2 2
            have hne24 := R6.out.n24
            have hne42 := Ne.symm R6.out.n24
            have P := Aside0.mk (R6.out.put2 op 0 0)
            have e : readR dec (wordsOf s) = (op, 0, 0, ((zs.length : Int) == 0)) := by
              unfold readR
              rw [OP.out, if_neg HZ.out, YS.out, EN.out]
              simp only [Bool.false_eq_true, if_false, if_true]
              rw [EJ.out, ← ZS.out]
              rfl
            have E := Aside0.mk e
            clear e
            go_wp2_with fail
            go_region
            all_goals
              go_wp2_with fail
              refine bodyPost_ret (results_ct rfl _ _ w.heap.size 38 #[.int .i64 op, .int .i64 0, .int .i64 0] (0, 0) _ rfl P.out.1 Tryd.underlying38 rfl (by kernel_rfl)) rfl ?_
              rw [E.out]
              exact ⟨rfl, P.out.2.drew⟩
          | true =>
            have EJ := Aside0.mk hJ
            clear hJ
            go_wp2_with fail
            refine (impl_hasN.calls op false _ (HN.out.trans (congrArg some EN.out))).mono ?_
            rintro e w3 ⟨rfl, hd⟩
            obtain ⟨nd, rfl⟩ := hd.out
            clear hd hcut
            have R3 := Aside0.mk (R2.out.drewN nd)
            clear c4_1 f4_1 c5_1_0 f5_1_0 c2_1_0 f2_1_0 c5_1_1 f5_1_1 c2_1_1 f2_1_1 c5_1_2 f5_1_2 c2_1_2 f2_1_2
            clear c4_2 f4_2 c5_2_0 f5_2_0 c2_2_0 f2_2_0 c5_2_1 f5_2_1 c2_2_1 f2_2_1 c5_2_2 f5_2_2 c2_2_2 f2_2_2
            obtain ⟨w3, hw3⟩ : ∃ v, v = ((wr.setCell ⟨g4, 0, none⟩ (.slice A1 ys.length c1)).drewN nd) := ⟨_, rfl⟩
            rw [← hw3] at R3
            (try rw [← hw3])
            clear hw3
            have c4_3 : w3.cell? ⟨g4, 0, none⟩ = some (.slice A1 ys.length c1) := (blk_cell R3.out.b4 0).trans rfl
            have f4_3 : w3.frozen? ⟨g4, 0, none⟩ = false := blk_frozen R3.out.b4 0
            have c5_3_0 : w3.cell? ⟨g5, 0, none⟩ = some (.int .i64 op) := (blk_cell R3.out.b5 0).trans rfl
            have f5_3_0 : w3.frozen? ⟨g5, 0, none⟩ = false := blk_frozen R3.out.b5 0
            have c2_3_0 : w3.cell? ⟨w.heap.size, 0, none⟩ = some (.int .i64 0) := (blk_cell R3.out.b2 0).trans rfl
            have f2_3_0 : w3.frozen? ⟨w.heap.size, 0, none⟩ = false := blk_frozen R3.out.b2 0
            have c5_3_1 : w3.cell? ⟨g5, 1, none⟩ = some (.int .i64 0) := (blk_cell R3.out.b5 1).trans rfl
            have f5_3_1 : w3.frozen? ⟨g5, 1, none⟩ = false := blk_frozen R3.out.b5 1
            have c2_3_1 : w3.cell? ⟨w.heap.size, 1, none⟩ = some (.int .i64 0) := (blk_cell R3.out.b2 1).trans rfl
            have f2_3_1 : w3.frozen? ⟨w.heap.size, 1, none⟩ = false := blk_frozen R3.out.b2 1
            have c5_3_2 : w3.cell? ⟨g5, 2, none⟩ = some (.int .i64 0) := (blk_cell R3.out.b5 2).trans rfl
            have f5_3_2 : w3.frozen? ⟨g5, 2, none⟩ = false := blk_frozen R3.out.b5 2
            have c2_3_2 : w3.cell? ⟨w.heap.size, 2, none⟩ = some (.int .i64 0) := (blk_cell R3.out.b2 2).trans rfl
            have f2_3_2 : w3.frozen? ⟨w.heap.size, 2, none⟩ = false := blk_frozen R3.out.b2 2
            go_wp2_with fail
            refine (impl_jumps.calls op true _ (HJ.out.trans (congrArg some EJ.out))).mono ?_
            rintro e w6 ⟨rfl, hd⟩
            obtain ⟨nd6, rfl⟩ := hd.out
            clear hd
            have R6 := Aside0.mk (R3.out.drewN nd6)
            clear c4_3 f4_3 c5_3_0 f5_3_0 c2_3_0 f2_3_0 c5_3_1 f5_3_1 c2_3_1 f2_3_1 c5_3_2 f5_3_2 c2_3_2 f2_3_2
            obtain ⟨w6, hw6⟩ : ∃ v, v = (w3.drewN nd6) := ⟨_, rfl⟩
            rw [← hw6] at R6
            (try rw [← hw6])
            clear hw6
            obtain ⟨zs, hzs⟩ : ∃ zs, zs = ys := ⟨_, rfl⟩
            rw [← hzs] at R6
            have ZS := Aside0.mk hzs
            clear hzs
            have c4_6 : w6.cell? ⟨g4, 0, none⟩ = some (.slice A1 zs.length c1) := (blk_cell R6.out.b4 0).trans rfl
            have f4_6 : w6.frozen? ⟨g4, 0, none⟩ = false := blk_frozen R6.out.b4 0
            have c5_6_0 : w6.cell? ⟨g5, 0, none⟩ = some (.int .i64 op) := (blk_cell R6.out.b5 0).trans rfl
            have f5_6_0 : w6.frozen? ⟨g5, 0, none⟩ = false := blk_frozen R6.out.b5 0
            have c2_6_0 : w6.cell? ⟨w.heap.size, 0, none⟩ = some (.int .i64 0) := (blk_cell R6.out.b2 0).trans rfl
            have f2_6_0 : w6.frozen? ⟨w.heap.size, 0, none⟩ = false := blk_frozen R6.out.b2 0
            have c5_6_1 : w6.cell? ⟨g5, 1, none⟩ = some (.int .i64 0) := (blk_cell R6.out.b5 1).trans rfl
            have f5_6_1 : w6.frozen? ⟨g5, 1, none⟩ = false := blk_frozen R6.out.b5 1
            have c2_6_1 : w6.cell? ⟨w.heap.size, 1, none⟩ = some (.int .i64 0) := (blk_cell R6.out.b2 1).trans rfl
            have f2_6_1 : w6.frozen? ⟨w.heap.size, 1, none⟩ = false := blk_frozen R6.out.b2 1
            have c5_6_2 : w6.cell? ⟨g5, 2, none⟩ = some (.int .i64 0) := (blk_cell R6.out.b5 2).trans rfl
            have f5_6_2 : w6.frozen? ⟨g5, 2, none⟩ = false := blk_frozen R6.out.b5 2
            have c2_6_2 : w6.cell? ⟨w.heap.size, 2, none⟩ = some (.int .i64 0) := (blk_cell R6.out.b2 2).trans rfl
            have f2_6_2 : w6.frozen? ⟨w.heap.size, 2, none⟩ = false := blk_frozen R6.out.b2 2
            go_wp2_with fail
            refine (take.anyV k dec R6.out HD.out).mono ?_
            rintro e w7 ⟨rfl, A7, c7, R7⟩
            replace R7 := Aside0.mk R7
            clear c4_6 f4_6 c5_6_0 f5_6_0 c2_6_0 f2_6_0 c5_6_1 f5_6_1 c2_6_1 f2_6_1 c5_6_2 f5_6_2 c2_6_2 f2_6_2
            obtain ⟨v7, hv7⟩ : ∃ v, v = takeV dec zs := ⟨_, rfl⟩
            rw [← hv7]
            have V7 := Aside0.mk hv7
            clear hv7
            obtain ⟨us, hus⟩ : ∃ us, us = zs.drop 1 := ⟨_, rfl⟩
            rw [← hus] at R7
            have US := Aside0.mk hus
            clear hus
            have R8 := Aside0.mk (R7.out.set5 2 (.int .i64 v7) rfl)
            cases b2 : takeB dec zs with
            | false =>
              have B2 := Aside0.mk b2
              clear b2
              have c4_7 : w7.cell? ⟨g4, 0, none⟩ = some (.slice A7 us.length c7) := (blk_cell R7.out.b4 0).trans rfl
              have f4_7 : w7.frozen? ⟨g4, 0, none⟩ = false := blk_frozen R7.out.b4 0
              have c5_7_0 : w7.cell? ⟨g5, 0, none⟩ = some (.int .i64 op) := (blk_cell R7.out.b5 0).trans rfl
              have f5_7_0 : w7.frozen? ⟨g5, 0, none⟩ = false := blk_frozen R7.out.b5 0
              have c2_7_0 : w7.cell? ⟨w.heap.size, 0, none⟩ = some (.int .i64 0) := (blk_cell R7.out.b2 0).trans rfl
              have f2_7_0 : w7.frozen? ⟨w.heap.size, 0, none⟩ = false := blk_frozen R7.out.b2 0
              have c5_7_1 : w7.cell? ⟨g5, 1, none⟩ = some (.int .i64 0) := (blk_cell R7.out.b5 1).trans rfl
              have f5_7_1 : w7.frozen? ⟨g5, 1, none⟩ = false := blk_frozen R7.out.b5 1
              have c2_7_1 : w7.cell? ⟨w.heap.size, 1, none⟩ = some (.int .i64 0) := (blk_cell R7.out.b2 1).trans rfl
              have f2_7_1 : w7.frozen? ⟨w.heap.size, 1, none⟩ = false := blk_frozen R7.out.b2 1
              have c5_7_2 : w7.cell? ⟨g5, 2, none⟩ = some (.int .i64 0) := (blk_cell R7.out.b5 2).trans rfl
              have f5_7_2 : w7.frozen? ⟨g5, 2, none⟩ = false := blk_frozen R7.out.b5 2
              have c2_7_2 : w7.cell? ⟨w.heap.size, 2, none⟩ = some (.int .i64 0) := (blk_cell R7.out.b2 2).trans rfl
              have f2_7_2 : w7.frozen? ⟨w.heap.size, 2, none⟩ = false := blk_frozen R7.out.b2 2
              have c4_8 : (w7.setCell ⟨g5, 2, none⟩ (.int .i64 v7)).cell? ⟨g4, 0, none⟩ = some (.slice A7 us.length c7) := (blk_cell R8.out.b4 0).trans rfl
              have f4_8 : (w7.setCell ⟨g5, 2, none⟩ (.int .i64 v7)).frozen? ⟨g4, 0, none⟩ = false := blk_frozen R8.out.b4 0
              have c5_8_0 : (w7.setCell ⟨g5, 2, none⟩ (.int .i64 v7)).cell? ⟨g5, 0, none⟩ = some (.int .i64 op) := (blk_cell R8.out.b5 0).trans rfl
              have f5_8_0 : (w7.setCell ⟨g5, 2, none⟩ (.int .i64 v7)).frozen? ⟨g5, 0, none⟩ = false := blk_frozen R8.out.b5 0
              have c2_8_0 : (w7.setCell ⟨g5, 2, none⟩ (.int .i64 v7)).cell? ⟨w.heap.size, 0, none⟩ = some (.int .i64 0) := (blk_cell R8.out.b2 0).trans rfl
              have f2_8_0 : (w7.setCell ⟨g5, 2, none⟩ (.int .i64 v7)).frozen? ⟨w.heap.size, 0, none⟩ = false := blk_frozen R8.out.b2 0
              have c5_8_1 : (w7.setCell ⟨g5, 2, none⟩ (.int .i64 v7)).cell? ⟨g5, 1, none⟩ = some (.int .i64 0) := (blk_cell R8.out.b5 1).trans rfl
              have f5_8_1 : (w7.setCell ⟨g5, 2, none⟩ (.int .i64 v7)).frozen? ⟨g5, 1, none⟩ = false := blk_frozen R8.out.b5 1
              have c2_8_1 : (w7.setCell ⟨g5, 2, none⟩ (.int .i64 v7)).cell? ⟨w.heap.size, 1, none⟩ = some (.int .i64 0) := (blk_cell R8.out.b2 1).trans rfl
              have f2_8_1 : (w7.setCell ⟨g5, 2, none⟩ (.int .i64 v7)).frozen? ⟨w.heap.size, 1, none⟩ = false := blk_frozen R8.out.b2 1
              have c5_8_2 : (w7.setCell ⟨g5, 2, none⟩ (.int .i64 v7)).cell? ⟨g5, 2, none⟩ = some (.int .i64 v7) := (blk_cell R8.out.b5 2).trans rfl
              have f5_8_2 : (w7.setCell ⟨g5, 2, none⟩ (.int .i64 v7)).frozen? ⟨g5, 2, none⟩ = false := blk_frozen R8.out.b5 2
              have c2_8_2 : (w7.setCell ⟨g5, 2, none⟩ (.int .i64 v7)).cell? ⟨w.heap.size, 2, none⟩ = some (.int .i64 0) := (blk_cell R8.out.b2 2).trans rfl
              have f2_8_2 : (w7.setCell ⟨g5, 2, none⟩ (.int .i64 v7)).frozen? ⟨w.heap.size, 2, none⟩ = false := blk_frozen R8.out.b2 2
              have P := Aside0.mk (R8.out.put2 op 0 v7)
              have e : readR dec (wordsOf s) = (op, 0, v7, false) := by
                unfold readR
                rw [OP.out, if_neg HZ.out, YS.out, EN.out]
                simp only [Bool.false_eq_true, if_false, if_true]
                rw [EJ.out, ← ZS.out]
                rw [← V7.out, ← US.out, B2.out]
                rfl
              have E := Aside0.mk e
              clear e
              go_wp2_with fail
              go_region
              all_goals
                go_wp2_with fail
                refine bodyPost_ret (results_ct rfl _ _ w.heap.size 38 #[.int .i64 op, .int .i64 0, .int .i64 v7] (0, 0) _ rfl P.out.1 Tryd.underlying38 rfl (by kernel_rfl)) rfl ?_
                rw [E.out]
                exact ⟨rfl, P.out.2.drew⟩
            | true =>
              have B2 := Aside0.mk b2
              clear b2
              have c4_7 : w7.cell? ⟨g4, 0, none⟩ = some (.slice A7 us.length c7) := (blk_cell R7.out.b4 0).trans rfl
              have f4_7 : w7.frozen? ⟨g4, 0, none⟩ = false := blk_frozen R7.out.b4 0
              have c5_7_0 : w7.cell? ⟨g5, 0, none⟩ = some (.int .i64 op) := (blk_cell R7.out.b5 0).trans rfl
              have f5_7_0 : w7.frozen? ⟨g5, 0, none⟩ = false := blk_frozen R7.out.b5 0
              have c2_7_0 : w7.cell? ⟨w.heap.size, 0, none⟩ = some (.int .i64 0) := (blk_cell R7.out.b2 0).trans rfl
              have f2_7_0 : w7.frozen? ⟨w.heap.size, 0, none⟩ = false := blk_frozen R7.out.b2 0
              have c5_7_1 : w7.cell? ⟨g5, 1, none⟩ = some (.int .i64 0) := (blk_cell R7.out.b5 1).trans rfl
              have f5_7_1 : w7.frozen? ⟨g5, 1, none⟩ = false := blk_frozen R7.out.b5 1
              have c2_7_1 : w7.cell? ⟨w.heap.size, 1, none⟩ = some (.int .i64 0) := (blk_cell R7.out.b2 1).trans rfl
              have f2_7_1 : w7.frozen? ⟨w.heap.size, 1, none⟩ = false := blk_frozen R7.out.b2 1
              have c5_7_2 : w7.cell? ⟨g5, 2, none⟩ = some (.int .i64 0) := (blk_cell R7.out.b5 2).trans rfl
              have f5_7_2 : w7.frozen? ⟨g5, 2, none⟩ = false := blk_frozen R7.out.b5 2
              have c2_7_2 : w7.cell? ⟨w.heap.size, 2, none⟩ = some (.int .i64 0) := (blk_cell R7.out.b2 2).trans rfl
              have f2_7_2 : w7.frozen? ⟨w.heap.size, 2, none⟩ = false := blk_frozen R7.out.b2 2
              have c4_8 : (w7.setCell ⟨g5, 2, none⟩ (.int .i64 v7)).cell? ⟨g4, 0, none⟩ = some (.slice A7 us.length c7) := (blk_cell R8.out.b4 0).trans rfl
              have f4_8 : (w7.setCell ⟨g5, 2, none⟩ (.int .i64 v7)).frozen? ⟨g4, 0, none⟩ = false := blk_frozen R8.out.b4 0
              have c5_8_0 : (w7.setCell ⟨g5, 2, none⟩ (.int .i64 v7)).cell? ⟨g5, 0, none⟩ = some (.int .i64 op) := (blk_cell R8.out.b5 0).trans rfl
              have f5_8_0 : (w7.setCell ⟨g5, 2, none⟩ (.int .i64 v7)).frozen? ⟨g5, 0, none⟩ = false := blk_frozen R8.out.b5 0
              have c2_8_0 : (w7.setCell ⟨g5, 2, none⟩ (.int .i64 v7)).cell? ⟨w.heap.size, 0, none⟩ = some (.int .i64 0) := (blk_cell R8.out.b2 0).trans rfl
              have f2_8_0 : (w7.setCell ⟨g5, 2, none⟩ (.int .i64 v7)).frozen? ⟨w.heap.size, 0, none⟩ = false := blk_frozen R8.out.b2 0
              have c5_8_1 : (w7.setCell ⟨g5, 2, none⟩ (.int .i64 v7)).cell? ⟨g5, 1, none⟩ = some (.int .i64 0) := (blk_cell R8.out.b5 1).trans rfl
              have f5_8_1 : (w7.setCell ⟨g5, 2, none⟩ (.int .i64 v7)).frozen? ⟨g5, 1, none⟩ = false := blk_frozen R8.out.b5 1
              have c2_8_1 : (w7.setCell ⟨g5, 2, none⟩ (.int .i64 v7)).cell? ⟨w.heap.size, 1, none⟩ = some (.int .i64 0) := (blk_cell R8.out.b2 1).trans rfl
              have f2_8_1 : (w7.setCell ⟨g5, 2, none⟩ (.int .i64 v7)).frozen? ⟨w.heap.size, 1, none⟩ = false := blk_frozen R8.out.b2 1
              have c5_8_2 : (w7.setCell ⟨g5, 2, none⟩ (.int .i64 v7)).cell? ⟨g5, 2, none⟩ = some (.int .i64 v7) := (blk_cell R8.out.b5 2).trans rfl
              have f5_8_2 : (w7.setCell ⟨g5, 2, none⟩ (.int .i64 v7)).frozen? ⟨g5, 2, none⟩ = false := blk_frozen R8.out.b5 2
              have c2_8_2 : (w7.setCell ⟨g5, 2, none⟩ (.int .i64 v7)).cell? ⟨w.heap.size, 2, none⟩ = some (.int .i64 0) := (blk_cell R8.out.b2 2).trans rfl
              have f2_8_2 : (w7.setCell ⟨g5, 2, none⟩ (.int .i64 v7)).frozen? ⟨w.heap.size, 2, none⟩ = false := blk_frozen R8.out.b2 2
              have hne24 := R8.out.n24
              have hne42 := Ne.symm R8.out.n24
              have P := Aside0.mk (R8.out.put2 op 0 v7)
              have e : readR dec (wordsOf s) = (op, 0, v7, ((us.length : Int) == 0)) := by
                unfold readR
                rw [OP.out, if_neg HZ.out, YS.out, EN.out]
                simp only [Bool.false_eq_true, if_false, if_true]
                rw [EJ.out, ← ZS.out]
                rw [← V7.out, ← US.out, B2.out]
                rfl
              have E := Aside0.mk e
              clear e
              go_wp2_with fail
              go_region
              all_goals
                go_wp2_with fail
                refine bodyPost_ret (results_ct rfl _ _ w.heap.size 38 #[.int .i64 op, .int .i64 0, .int .i64 v7] (0, 0) _ rfl P.out.1 Tryd.underlying38 rfl (by kernel_rfl)) rfl ?_
                rw [E.out]
                exact ⟨rfl, P.out.2.drew⟩
        | true =>
          have EN := Aside0.mk hN
          clear hN
          cases hB : takeB dec ys with
          | false =>
            have B1 := Aside0.mk hB
            clear hB
            go_wp2_with fail
            refine (impl_hasN.calls op true _ (HN.out.trans (congrArg some EN.out))).mono ?_
            rintro e w3 ⟨rfl, hd⟩
            obtain ⟨nd, rfl⟩ := hd.out
            clear hd hcut
            have R3 := Aside0.mk (R2.out.drewN nd)
            clear c4_1 f4_1 c5_1_0 f5_1_0 c2_1_0 f2_1_0 c5_1_1 f5_1_1 c2_1_1 f2_1_1 c5_1_2 f5_1_2 c2_1_2 f2_1_2
            clear c4_2 f4_2 c5_2_0 f5_2_0 c2_2_0 f2_2_0 c5_2_1 f5_2_1 c2_2_1 f2_2_1 c5_2_2 f5_2_2 c2_2_2 f2_2_2
            obtain ⟨w3, hw3⟩ : ∃ v, v = ((wr.setCell ⟨g4, 0, none⟩ (.slice A1 ys.length c1)).drewN nd) := ⟨_, rfl⟩
            rw [← hw3] at R3
            (try rw [← hw3])
            clear hw3
            have c4_3 : w3.cell? ⟨g4, 0, none⟩ = some (.slice A1 ys.length c1) := (blk_cell R3.out.b4 0).trans rfl
            have f4_3 : w3.frozen? ⟨g4, 0, none⟩ = false := blk_frozen R3.out.b4 0
            have c5_3_0 : w3.cell? ⟨g5, 0, none⟩ = some (.int .i64 op) := (blk_cell R3.out.b5 0).trans rfl
            have f5_3_0 : w3.frozen? ⟨g5, 0, none⟩ = false := blk_frozen R3.out.b5 0
            have c2_3_0 : w3.cell? ⟨w.heap.size, 0, none⟩ = some (.int .i64 0) := (blk_cell R3.out.b2 0).trans rfl
            have f2_3_0 : w3.frozen? ⟨w.heap.size, 0, none⟩ = false := blk_frozen R3.out.b2 0
            have c5_3_1 : w3.cell? ⟨g5, 1, none⟩ = some (.int .i64 0) := (blk_cell R3.out.b5 1).trans rfl
            have f5_3_1 : w3.frozen? ⟨g5, 1, none⟩ = false := blk_frozen R3.out.b5 1
            have c2_3_1 : w3.cell? ⟨w.heap.size, 1, none⟩ = some (.int .i64 0) := (blk_cell R3.out.b2 1).trans rfl
            have f2_3_1 : w3.frozen? ⟨w.heap.size, 1, none⟩ = false := blk_frozen R3.out.b2 1
            have c5_3_2 : w3.cell? ⟨g5, 2, none⟩ = some (.int .i64 0) := (blk_cell R3.out.b5 2).trans rfl
            have f5_3_2 : w3.frozen? ⟨g5, 2, none⟩ = false := blk_frozen R3.out.b5 2
            have c2_3_2 : w3.cell? ⟨w.heap.size, 2, none⟩ = some (.int .i64 0) := (blk_cell R3.out.b2 2).trans rfl
            have f2_3_2 : w3.frozen? ⟨w.heap.size, 2, none⟩ = false := blk_frozen R3.out.b2 2
            go_wp2_with fail
            refine (take.anyV k dec R3.out HD.out).mono ?_
            rintro e w4 ⟨rfl, A4, c4, R4⟩
            replace R4 := Aside0.mk R4
            clear c4_3 f4_3 c5_3_0 f5_3_0 c2_3_0 f2_3_0 c5_3_1 f5_3_1 c2_3_1 f2_3_1 c5_3_2 f5_3_2 c2_3_2 f2_3_2
            have R5 := Aside0.mk (R4.out.set5 1 (.int .i64 (takeV dec ys)) rfl)
            obtain ⟨v4, hv4⟩ : ∃ v, v = takeV dec ys := ⟨_, rfl⟩
            rw [← hv4] at R5 ⊢
            have V4 := Aside0.mk hv4
            clear hv4
            rw [B1.out]
            have c4_4 : w4.cell? ⟨g4, 0, none⟩ = some (.slice A4 (ys.drop 1).length c4) := (blk_cell R4.out.b4 0).trans rfl
            have f4_4 : w4.frozen? ⟨g4, 0, none⟩ = false := blk_frozen R4.out.b4 0
            have c5_4_0 : w4.cell? ⟨g5, 0, none⟩ = some (.int .i64 op) := (blk_cell R4.out.b5 0).trans rfl
            have f5_4_0 : w4.frozen? ⟨g5, 0, none⟩ = false := blk_frozen R4.out.b5 0
            have c2_4_0 : w4.cell? ⟨w.heap.size, 0, none⟩ = some (.int .i64 0) := (blk_cell R4.out.b2 0).trans rfl
            have f2_4_0 : w4.frozen? ⟨w.heap.size, 0, none⟩ = false := blk_frozen R4.out.b2 0
            have c5_4_1 : w4.cell? ⟨g5, 1, none⟩ = some (.int .i64 0) := (blk_cell R4.out.b5 1).trans rfl
            have f5_4_1 : w4.frozen? ⟨g5, 1, none⟩ = false := blk_frozen R4.out.b5 1
            have c2_4_1 : w4.cell? ⟨w.heap.size, 1, none⟩ = some (.int .i64 0) := (blk_cell R4.out.b2 1).trans rfl
            have f2_4_1 : w4.frozen? ⟨w.heap.size, 1, none⟩ = false := blk_frozen R4.out.b2 1
            have c5_4_2 : w4.cell? ⟨g5, 2, none⟩ = some (.int .i64 0) := (blk_cell R4.out.b5 2).trans rfl
            have f5_4_2 : w4.frozen? ⟨g5, 2, none⟩ = false := blk_frozen R4.out.b5 2
            have c2_4_2 : w4.cell? ⟨w.heap.size, 2, none⟩ = some (.int .i64 0) := (blk_cell R4.out.b2 2).trans rfl
            have f2_4_2 : w4.frozen? ⟨w.heap.size, 2, none⟩ = false := blk_frozen R4.out.b2 2
            have c4_5 : (w4.setCell ⟨g5, 1, none⟩ (.int .i64 v4)).cell? ⟨g4, 0, none⟩ = some (.slice A4 (ys.drop 1).length c4) := (blk_cell R5.out.b4 0).trans rfl
            have f4_5 : (w4.setCell ⟨g5, 1, none⟩ (.int .i64 v4)).frozen? ⟨g4, 0, none⟩ = false := blk_frozen R5.out.b4 0
            have c5_5_0 : (w4.setCell ⟨g5, 1, none⟩ (.int .i64 v4)).cell? ⟨g5, 0, none⟩ = some (.int .i64 op) := (blk_cell R5.out.b5 0).trans rfl
            have f5_5_0 : (w4.setCell ⟨g5, 1, none⟩ (.int .i64 v4)).frozen? ⟨g5, 0, none⟩ = false := blk_frozen R5.out.b5 0
            have c2_5_0 : (w4.setCell ⟨g5, 1, none⟩ (.int .i64 v4)).cell? ⟨w.heap.size, 0, none⟩ = some (.int .i64 0) := (blk_cell R5.out.b2 0).trans rfl
            have f2_5_0 : (w4.setCell ⟨g5, 1, none⟩ (.int .i64 v4)).frozen? ⟨w.heap.size, 0, none⟩ = false := blk_frozen R5.out.b2 0
            have c5_5_1 : (w4.setCell ⟨g5, 1, none⟩ (.int .i64 v4)).cell? ⟨g5, 1, none⟩ = some (.int .i64 v4) := (blk_cell R5.out.b5 1).trans rfl
            have f5_5_1 : (w4.setCell ⟨g5, 1, none⟩ (.int .i64 v4)).frozen? ⟨g5, 1, none⟩ = false := blk_frozen R5.out.b5 1
            have c2_5_1 : (w4.setCell ⟨g5, 1, none⟩ (.int .i64 v4)).cell? ⟨w.heap.size, 1, none⟩ = some (.int .i64 0) := (blk_cell R5.out.b2 1).trans rfl
            have f2_5_1 : (w4.setCell ⟨g5, 1, none⟩ (.int .i64 v4)).frozen? ⟨w.heap.size, 1, none⟩ = false := blk_frozen R5.out.b2 1
            have c5_5_2 : (w4.setCell ⟨g5, 1, none⟩ (.int .i64 v4)).cell? ⟨g5, 2, none⟩ = some (.int .i64 0) := (blk_cell R5.out.b5 2).trans rfl
            have f5_5_2 : (w4.setCell ⟨g5, 1, none⟩ (.int .i64 v4)).frozen? ⟨g5, 2, none⟩ = false := blk_frozen R5.out.b5 2
            have c2_5_2 : (w4.setCell ⟨g5, 1, none⟩ (.int .i64 v4)).cell? ⟨w.heap.size, 2, none⟩ = some (.int .i64 0) := (blk_cell R5.out.b2 2).trans rfl
            have f2_5_2 : (w4.setCell ⟨g5, 1, none⟩ (.int .i64 v4)).frozen? ⟨w.heap.size, 2, none⟩ = false := blk_frozen R5.out.b2 2
            have P := Aside0.mk (R5.out.put2 op v4 0)
            have e : readR dec (wordsOf s) = (op, v4, 0, false) := by
              unfold readR
              rw [OP.out, if_neg HZ.out, YS.out, EN.out]
              simp only [Bool.false_eq_true, if_false, if_true]
              rw [← V4.out, B1.out]
              rfl
            have E := Aside0.mk e
            clear e
            go_wp2_with fail
            go_region
            all_goals
              go_wp2_with fail
              refine bodyPost_ret (results_ct rfl _ _ w.heap.size 38 #[.int .i64 op, .int .i64 v4, .int .i64 0] (0, 0) _ rfl P.out.1 Tryd.underlying38 rfl (by kernel_rfl)) rfl ?_
              rw [E.out]
              exact ⟨rfl, P.out.2.drew⟩
          | true =>
            have B1 := Aside0.mk hB
            clear hB
            cases hJ : jumpsB op with
            | false =>
              have EJ := Aside0.mk hJ
              clear hJ
              go_wp2_with fail
              refine (impl_hasN.calls op true _ (HN.out.trans (congrArg some EN.out))).mono ?_
              rintro e w3 ⟨rfl, hd⟩
              obtain ⟨nd, rfl⟩ := hd.out
              clear hd hcut
              have R3 := Aside0.mk (R2.out.drewN nd)
              clear c4_1 f4_1 c5_1_0 f5_1_0 c2_1_0 f2_1_0 c5_1_1 f5_1_1 c2_1_1 f2_1_1 c5_1_2 f5_1_2 c2_1_2 f2_1_2
              clear c4_2 f4_2 c5_2_0 f5_2_0 c2_2_0 f2_2_0 c5_2_1 f5_2_1 c2_2_1 f2_2_1 c5_2_2 f5_2_2 c2_2_2 f2_2_2
              obtain ⟨w3, hw3⟩ : ∃ v, v = ((wr.setCell ⟨g4, 0, none⟩ (.slice A1 ys.length c1)).drewN nd) := ⟨_, rfl⟩
              rw [← hw3] at R3
              (try rw [← hw3])
              clear hw3
              have c4_3 : w3.cell? ⟨g4, 0, none⟩ = some (.slice A1 ys.length c1) := (blk_cell R3.out.b4 0).trans rfl
              have f4_3 : w3.frozen? ⟨g4, 0, none⟩ = false := blk_frozen R3.out.b4 0
              have c5_3_0 : w3.cell? ⟨g5, 0, none⟩ = some (.int .i64 op) := (blk_cell R3.out.b5 0).trans rfl
              have f5_3_0 : w3.frozen? ⟨g5, 0, none⟩ = false := blk_frozen R3.out.b5 0
              have c2_3_0 : w3.cell? ⟨w.heap.size, 0, none⟩ = some (.int .i64 0) := (blk_cell R3.out.b2 0).trans rfl
              have f2_3_0 : w3.frozen? ⟨w.heap.size, 0, none⟩ = false := blk_frozen R3.out.b2 0
              have c5_3_1 : w3.cell? ⟨g5, 1, none⟩ = some (.int .i64 0) := (blk_cell R3.out.b5 1).trans rfl
              have f5_3_1 : w3.frozen? ⟨g5, 1, none⟩ = false := blk_frozen R3.out.b5 1
              have c2_3_1 : w3.cell? ⟨w.heap.size, 1, none⟩ = some (.int .i64 0) := (blk_cell R3.out.b2 1).trans rfl
              have f2_3_1 : w3.frozen? ⟨w.heap.size, 1, none⟩ = false := blk_frozen R3.out.b2 1
              have c5_3_2 : w3.cell? ⟨g5, 2, none⟩ = some (.int .i64 0) := (blk_cell R3.out.b5 2).trans rfl
              have f5_3_2 : w3.frozen? ⟨g5, 2, none⟩ = false := blk_frozen R3.out.b5 2
              have c2_3_2 : w3.cell? ⟨w.heap.size, 2, none⟩ = some (.int .i64 0) := (blk_cell R3.out.b2 2).trans rfl
              have f2_3_2 : w3.frozen? ⟨w.heap.size, 2, none⟩ = false := blk_frozen R3.out.b2 2
              go_wp2_with fail
              refine (take.anyV k dec R3.out HD.out).mono ?_
              rintro e w4 ⟨rfl, A4, c4, R4⟩
              replace R4 := Aside0.mk R4
              clear c4_3 f4_3 c5_3_0 f5_3_0 c2_3_0 f2_3_0 c5_3_1 f5_3_1 c2_3_1 f2_3_1 c5_3_2 f5_3_2 c2_3_2 f2_3_2
              have R5 := Aside0.mk (R4.out.set5 1 (.int .i64 (takeV dec ys)) rfl)
              obtain ⟨v4, hv4⟩ : ∃ v, v = takeV dec ys := ⟨_, rfl⟩
              rw [← hv4] at R5 ⊢
              have V4 := Aside0.mk hv4
              clear hv4
              rw [B1.out]
              have c4_4 : w4.cell? ⟨g4, 0, none⟩ = some (.slice A4 (ys.drop 1).length c4) := (blk_cell R4.out.b4 0).trans rfl
              have f4_4 : w4.frozen? ⟨g4, 0, none⟩ = false := blk_frozen R4.out.b4 0
              have c5_4_0 : w4.cell? ⟨g5, 0, none⟩ = some (.int .i64 op) := (blk_cell R4.out.b5 0).trans rfl
              have f5_4_0 : w4.frozen? ⟨g5, 0, none⟩ = false := blk_frozen R4.out.b5 0
              have c2_4_0 : w4.cell? ⟨w.heap.size, 0, none⟩ = some (.int .i64 0) := (blk_cell R4.out.b2 0).trans rfl
              have f2_4_0 : w4.frozen? ⟨w.heap.size, 0, none⟩ = false := blk_frozen R4.out.b2 0
              have c5_4_1 : w4.cell? ⟨g5, 1, none⟩ = some (.int .i64 0) := (blk_cell R4.out.b5 1).trans rfl
              have f5_4_1 : w4.frozen? ⟨g5, 1, none⟩ = false := blk_frozen R4.out.b5 1
              have c2_4_1 : w4.cell? ⟨w.heap.size, 1, none⟩ = some (.int .i64 0) := (blk_cell R4.out.b2 1).trans rfl
              have f2_4_1 : w4.frozen? ⟨w.heap.size, 1, none⟩ = false := blk_frozen R4.out.b2 1
              have c5_4_2 : w4.cell? ⟨g5, 2, none⟩ = some (.int .i64 0) := (blk_cell R4.out.b5 2).trans rfl
              have f5_4_2 : w4.frozen? ⟨g5, 2, none⟩ = false := blk_frozen R4.out.b5 2
              have c2_4_2 : w4.cell? ⟨w.heap.size, 2, none⟩ = some (.int .i64 0) := (blk_cell R4.out.b2 2).trans rfl
              have f2_4_2 : w4.frozen? ⟨w.heap.size, 2, none⟩ = false := blk_frozen R4.out.b2 2
              have c4_5 : (w4.setCell ⟨g5, 1, none⟩ (.int .i64 v4)).cell? ⟨g4, 0, none⟩ = some (.slice A4 (ys.drop 1).length c4) := (blk_cell R5.out.b4 0).trans rfl
              have f4_5 : (w4.setCell ⟨g5, 1, none⟩ (.int .i64 v4)).frozen? ⟨g4, 0, none⟩ = false := blk_frozen R5.out.b4 0
              have c5_5_0 : (w4.setCell ⟨g5, 1, none⟩ (.int .i64 v4)).cell? ⟨g5, 0, none⟩ = some (.int .i64 op) := (blk_cell R5.out.b5 0).trans rfl
              have f5_5_0 : (w4.setCell ⟨g5, 1, none⟩ (.int .i64 v4)).frozen? ⟨g5, 0, none⟩ = false := blk_frozen R5.out.b5 0
              have c2_5_0 : (w4.setCell ⟨g5, 1, none⟩ (.int .i64 v4)).cell? ⟨w.heap.size, 0, none⟩ = some (.int .i64 0) := (blk_cell R5.out.b2 0).trans rfl
              have f2_5_0 : (w4.setCell ⟨g5, 1, none⟩ (.int .i64 v4)).frozen? ⟨w.heap.size, 0, none⟩ = false := blk_frozen R5.out.b2 0
              have c5_5_1 : (w4.setCell ⟨g5, 1, none⟩ (.int .i64 v4)).cell? ⟨g5, 1, none⟩ = some (.int .i64 v4) := (blk_cell R5.out.b5 1).trans rfl
              have f5_5_1 : (w4.setCell ⟨g5, 1, none⟩ (.int .i64 v4)).frozen? ⟨g5, 1, none⟩ = false := blk_frozen R5.out.b5 1
              have c2_5_1 : (w4.setCell ⟨g5, 1, none⟩ (.int .i64 v4)).cell? ⟨w.heap.size, 1, none⟩ = some (.int .i64 0) := (blk_cell R5.out.b2 1).trans rfl
              have f2_5_1 : (w4.setCell ⟨g5, 1, none⟩ (.int .i64 v4)).frozen? ⟨w.heap.size, 1, none⟩ = false := blk_frozen R5.out.b2 1
              have c5_5_2 : (w4.setCell ⟨g5, 1, none⟩ (.int .i64 v4)).cell? ⟨g5, 2, none⟩ = some (.int .i64 0) := (blk_cell R5.out.b5 2).trans rfl
              have f5_5_2 : (w4.setCell ⟨g5, 1, none⟩ (.int .i64 v4)).frozen? ⟨g5, 2, none⟩ = false := blk_frozen R5.out.b5 2
              have c2_5_2 : (w4.setCell ⟨g5, 1, none⟩ (.int .i64 v4)).cell? ⟨w.heap.size, 2, none⟩ = some (.int .i64 0) := (blk_cell R5.out.b2 2).trans rfl
              have f2_5_2 : (w4.setCell ⟨g5, 1, none⟩ (.int .i64 v4)).frozen? ⟨w.heap.size, 2, none⟩ = false := blk_frozen R5.out.b2 2
              go_wp2_with fail
              refine (impl_jumps.calls op false _ (HJ.out.trans (congrArg some EJ.out))).mono ?_
              rintro e w6 ⟨rfl, hd⟩
              obtain ⟨nd6, rfl⟩ := hd.out
              clear hd
              have R6 := Aside0.mk (R5.out.drewN nd6)
              clear c4_4 f4_4 c5_4_0 f5_4_0 c2_4_0 f2_4_0 c5_4_1 f5_4_1 c2_4_1 f2_4_1 c5_4_2 f5_4_2 c2_4_2 f2_4_2
              clear c4_5 f4_5 c5_5_0 f5_5_0 c2_5_0 f2_5_0 c5_5_1 f5_5_1 c2_5_1 f2_5_1 c5_5_2 f5_5_2 c2_5_2 f2_5_2
              obtain ⟨w6, hw6⟩ : ∃ v, v = ((w4.setCell ⟨g5, 1, none⟩ (.int .i64 v4)).drewN nd6) := ⟨_, rfl⟩
              rw [← hw6] at R6
              (try rw [← hw6])
              clear hw6
              obtain ⟨zs, hzs⟩ : ∃ zs, zs = (ys.drop 1) := ⟨_, rfl⟩
              rw [← hzs] at R6
              have ZS := Aside0.mk hzs
              clear hzs
              have c4_6 : w6.cell? ⟨g4, 0, none⟩ = some (.slice A4 zs.length c4) := (blk_cell R6.out.b4 0).trans rfl
              have f4_6 : w6.frozen? ⟨g4, 0, none⟩ = false := blk_frozen R6.out.b4 0
              have c5_6_0 : w6.cell? ⟨g5, 0, none⟩ = some (.int .i64 op) := (blk_cell R6.out.b5 0).trans rfl
              have f5_6_0 : w6.frozen? ⟨g5, 0, none⟩ = false := blk_frozen R6.out.b5 0
              have c2_6_0 : w6.cell? ⟨w.heap.size, 0, none⟩ = some (.int .i64 0) := (blk_cell R6.out.b2 0).trans rfl
              have f2_6_0 : w6.frozen? ⟨w.heap.size, 0, none⟩ = false := blk_frozen R6.out.b2 0
              have c5_6_1 : w6.cell? ⟨g5, 1, none⟩ = some (.int .i64 v4) := (blk_cell R6.out.b5 1).trans rfl
              have f5_6_1 : w6.frozen? ⟨g5, 1, none⟩ = false := blk_frozen R6.out.b5 1
              have c2_6_1 : w6.cell? ⟨w.heap.size, 1, none⟩ = some (.int .i64 0) := (blk_cell R6.out.b2 1).trans rfl
              have f2_6_1 : w6.frozen? ⟨w.heap.size, 1, none⟩ = false := blk_frozen R6.out.b2 1
              have c5_6_2 : w6.cell? ⟨g5, 2, none⟩ = some (.int .i64 0) := (blk_cell R6.out.b5 2).trans rfl
              have f5_6_2 : w6.frozen? ⟨g5, 2, none⟩ = false := blk_frozen R6.out.b5 2
              have c2_6_2 : w6.cell? ⟨w.heap.size, 2, none⟩ = some (.int .i64 0) := (blk_cell R6.out.b2 2).trans rfl
              have f2_6_2 : w6.frozen? ⟨w.heap.size, 2, none⟩ = false := blk_frozen R6.out.b2 2
              have hne24 := R6.out.n24
              have hne42 := Ne.symm R6.out.n24
              have P := Aside0.mk (R6.out.put2 op v4 0)
              have e : readR dec (wordsOf s) = (op, v4, 0, ((zs.length : Int) == 0)) := by
                unfold readR
                rw [OP.out, if_neg HZ.out, YS.out, EN.out]
                simp only [Bool.false_eq_true, if_false, if_true]
                rw [← V4.out, B1.out]
                rw [EJ.out, ← ZS.out]
                rfl
              have E := Aside0.mk e
              clear e
              go_wp2_with fail
              go_region
              all_goals
                go_wp2_with fail
                refine bodyPost_ret (results_ct rfl _ _ w.heap.size 38 #[.int .i64 op, .int .i64 v4, .int .i64 0] (0, 0) _ rfl P.out.1 Tryd.underlying38 rfl (by kernel_rfl)) rfl ?_
                rw [E.out]
                exact ⟨rfl, P.out.2.drew⟩
            | true =>
              have EJ := Aside0.mk hJ
              clear hJ
              go_wp2_with fail
              refine (impl_hasN.calls op true _ (HN.out.trans (congrArg some EN.out))).mono ?_
              rintro e w3 ⟨rfl, hd⟩
              obtain ⟨nd, rfl⟩ := hd.out
              clear hd hcut
              have R3 := Aside0.mk (R2.out.drewN nd)
              clear c4_1 f4_1 c5_1_0 f5_1_0 c2_1_0 f2_1_0 c5_1_1 f5_1_1 c2_1_1 f2_1_1 c5_1_2 f5_1_2 c2_1_2 f2_1_2
              clear c4_2 f4_2 c5_2_0 f5_2_0 c2_2_0 f2_2_0 c5_2_1 f5_2_1 c2_2_1 f2_2_1 c5_2_2 f5_2_2 c2_2_2 f2_2_2
              obtain ⟨w3, hw3⟩ : ∃ v, v = ((wr.setCell ⟨g4, 0, none⟩ (.slice A1 ys.length c1)).drewN nd) := ⟨_, rfl⟩
              rw [← hw3] at R3
              (try rw [← hw3])
              clear hw3
              have c4_3 : w3.cell? ⟨g4, 0, none⟩ = some (.slice A1 ys.length c1) := (blk_cell R3.out.b4 0).trans rfl
              have f4_3 : w3.frozen? ⟨g4, 0, none⟩ = false := blk_frozen R3.out.b4 0
              have c5_3_0 : w3.cell? ⟨g5, 0, none⟩ = some (.int .i64 op) := (blk_cell R3.out.b5 0).trans rfl
              have f5_3_0 : w3.frozen? ⟨g5, 0, none⟩ = false := blk_frozen R3.out.b5 0
              have c2_3_0 : w3.cell? ⟨w.heap.size, 0, none⟩ = some (.int .i64 0) := (blk_cell R3.out.b2 0).trans rfl
              have f2_3_0 : w3.frozen? ⟨w.heap.size, 0, none⟩ = false := blk_frozen R3.out.b2 0
              have c5_3_1 : w3.cell? ⟨g5, 1, none⟩ = some (.int .i64 0) := (blk_cell R3.out.b5 1).trans rfl
              have f5_3_1 : w3.frozen? ⟨g5, 1, none⟩ = false := blk_frozen R3.out.b5 1
              have c2_3_1 : w3.cell? ⟨w.heap.size, 1, none⟩ = some (.int .i64 0) := (blk_cell R3.out.b2 1).trans rfl
              have f2_3_1 : w3.frozen? ⟨w.heap.size, 1, none⟩ = false := blk_frozen R3.out.b2 1
              have c5_3_2 : w3.cell? ⟨g5, 2, none⟩ = some (.int .i64 0) := (blk_cell R3.out.b5 2).trans rfl
              have f5_3_2 : w3.frozen? ⟨g5, 2, none⟩ = false := blk_frozen R3.out.b5 2
              have c2_3_2 : w3.cell? ⟨w.heap.size, 2, none⟩ = some (.int .i64 0) := (blk_cell R3.out.b2 2).trans rfl
              have f2_3_2 : w3.frozen? ⟨w.heap.size, 2, none⟩ = false := blk_frozen R3.out.b2 2
              go_wp2_with fail
              refine (take.anyV k dec R3.out HD.out).mono ?_
              rintro e w4 ⟨rfl, A4, c4, R4⟩
              replace R4 := Aside0.mk R4
              clear c4_3 f4_3 c5_3_0 f5_3_0 c2_3_0 f2_3_0 c5_3_1 f5_3_1 c2_3_1 f2_3_1 c5_3_2 f5_3_2 c2_3_2 f2_3_2
              have R5 := Aside0.mk (R4.out.set5 1 (.int .i64 (takeV dec ys)) rfl)
              obtain ⟨v4, hv4⟩ : ∃ v, v = takeV dec ys := ⟨_, rfl⟩
              rw [← hv4] at R5 ⊢
              have V4 := Aside0.mk hv4
              clear hv4
              rw [B1.out]
              have c4_4 : w4.cell? ⟨g4, 0, none⟩ = some (.slice A4 (ys.drop 1).length c4) := (blk_cell R4.out.b4 0).trans rfl
              have f4_4 : w4.frozen? ⟨g4, 0, none⟩ = false := blk_frozen R4.out.b4 0
              have c5_4_0 : w4.cell? ⟨g5, 0, none⟩ = some (.int .i64 op) := (blk_cell R4.out.b5 0).trans rfl
              have f5_4_0 : w4.frozen? ⟨g5, 0, none⟩ = false := blk_frozen R4.out.b5 0
              have c2_4_0 : w4.cell? ⟨w.heap.size, 0, none⟩ = some (.int .i64 0) := (blk_cell R4.out.b2 0).trans rfl
              have f2_4_0 : w4.frozen? ⟨w.heap.size, 0, none⟩ = false := blk_frozen R4.out.b2 0
              have c5_4_1 : w4.cell? ⟨g5, 1, none⟩ = some (.int .i64 0) := (blk_cell R4.out.b5 1).trans rfl
              have f5_4_1 : w4.frozen? ⟨g5, 1, none⟩ = false := blk_frozen R4.out.b5 1
              have c2_4_1 : w4.cell? ⟨w.heap.size, 1, none⟩ = some (.int .i64 0) := (blk_cell R4.out.b2 1).trans rfl
              have f2_4_1 : w4.frozen? ⟨w.heap.size, 1, none⟩ = false := blk_frozen R4.out.b2 1
              have c5_4_2 : w4.cell? ⟨g5, 2, none⟩ = some (.int .i64 0) := (blk_cell R4.out.b5 2).trans rfl
              have f5_4_2 : w4.frozen? ⟨g5, 2, none⟩ = false := blk_frozen R4.out.b5 2
              have c2_4_2 : w4.cell? ⟨w.heap.size, 2, none⟩ = some (.int .i64 0) := (blk_cell R4.out.b2 2).trans rfl
              have f2_4_2 : w4.frozen? ⟨w.heap.size, 2, none⟩ = false := blk_frozen R4.out.b2 2
              have c4_5 : (w4.setCell ⟨g5, 1, none⟩ (.int .i64 v4)).cell? ⟨g4, 0, none⟩ = some (.slice A4 (ys.drop 1).length c4) := (blk_cell R5.out.b4 0).trans rfl
              have f4_5 : (w4.setCell ⟨g5, 1, none⟩ (.int .i64 v4)).frozen? ⟨g4, 0, none⟩ = false := blk_frozen R5.out.b4 0
              have c5_5_0 : (w4.setCell ⟨g5, 1, none⟩ (.int .i64 v4)).cell? ⟨g5, 0, none⟩ = some (.int .i64 op) := (blk_cell R5.out.b5 0).trans rfl
              have f5_5_0 : (w4.setCell ⟨g5, 1, none⟩ (.int .i64 v4)).frozen? ⟨g5, 0, none⟩ = false := blk_frozen R5.out.b5 0
              have c2_5_0 : (w4.setCell ⟨g5, 1, none⟩ (.int .i64 v4)).cell? ⟨w.heap.size, 0, none⟩ = some (.int .i64 0) := (blk_cell R5.out.b2 0).trans rfl
              have f2_5_0 : (w4.setCell ⟨g5, 1, none⟩ (.int .i64 v4)).frozen? ⟨w.heap.size, 0, none⟩ = false := blk_frozen R5.out.b2 0
              have c5_5_1 : (w4.setCell ⟨g5, 1, none⟩ (.int .i64 v4)).cell? ⟨g5, 1, none⟩ = some (.int .i64 v4) := (blk_cell R5.out.b5 1).trans rfl
              have f5_5_1 : (w4.setCell ⟨g5, 1, none⟩ (.int .i64 v4)).frozen? ⟨g5, 1, none⟩ = false := blk_frozen R5.out.b5 1
              have c2_5_1 : (w4.setCell ⟨g5, 1, none⟩ (.int .i64 v4)).cell? ⟨w.heap.size, 1, none⟩ = some (.int .i64 0) := (blk_cell R5.out.b2 1).trans rfl
              have f2_5_1 : (w4.setCell ⟨g5, 1, none⟩ (.int .i64 v4)).frozen? ⟨w.heap.size, 1, none⟩ = false := blk_frozen R5.out.b2 1
              have c5_5_2 : (w4.setCell ⟨g5, 1, none⟩ (.int .i64 v4)).cell? ⟨g5, 2, none⟩ = some (.int .i64 0) := (blk_cell R5.out.b5 2).trans rfl
              have f5_5_2 : (w4.setCell ⟨g5, 1, none⟩ (.int .i64 v4)).frozen? ⟨g5, 2, none⟩ = false := blk_frozen R5.out.b5 2
              have c2_5_2 : (w4.setCell ⟨g5, 1, none⟩ (.int .i64 v4)).cell? ⟨w.heap.size, 2, none⟩ = some (.int .i64 0) := (blk_cell R5.out.b2 2).trans rfl
              have f2_5_2 : (w4.setCell ⟨g5, 1, none⟩ (.int .i64 v4)).frozen? ⟨w.heap.size, 2, none⟩ = false := blk_frozen R5.out.b2 2
              go_wp2_with fail
              refine (impl_jumps.calls op true _ (HJ.out.trans (congrArg some EJ.out))).mono ?_
              rintro e w6 ⟨rfl, hd⟩
              obtain ⟨nd6, rfl⟩ := hd.out
              clear hd
              have R6 := Aside0.mk (R5.out.drewN nd6)
              clear c4_4 f4_4 c5_4_0 f5_4_0 c2_4_0 f2_4_0 c5_4_1 f5_4_1 c2_4_1 f2_4_1 c5_4_2 f5_4_2 c2_4_2 f2_4_2
              clear c4_5 f4_5 c5_5_0 f5_5_0 c2_5_0 f2_5_0 c5_5_1 f5_5_1 c2_5_1 f2_5_1 c5_5_2 f5_5_2 c2_5_2 f2_5_2
              obtain ⟨w6, hw6⟩ : ∃ v, v = ((w4.setCell ⟨g5, 1, none⟩ (.int .i64 v4)).drewN nd6) := ⟨_, rfl⟩
              rw [← hw6] at R6
              (try rw [← hw6])
              clear hw6
              obtain ⟨zs, hzs⟩ : ∃ zs, zs = (ys.drop 1) := ⟨_, rfl⟩
              rw [← hzs] at R6
              have ZS := Aside0.mk hzs
              clear hzs
              have c4_6 : w6.cell? ⟨g4, 0, none⟩ = some (.slice A4 zs.length c4) := (blk_cell R6.out.b4 0).trans rfl
              have f4_6 : w6.frozen? ⟨g4, 0, none⟩ = false := blk_frozen R6.out.b4 0
              have c5_6_0 : w6.cell? ⟨g5, 0, none⟩ = some (.int .i64 op) := (blk_cell R6.out.b5 0).trans rfl
              have f5_6_0 : w6.frozen? ⟨g5, 0, none⟩ = false := blk_frozen R6.out.b5 0
              have c2_6_0 : w6.cell? ⟨w.heap.size, 0, none⟩ = some (.int .i64 0) := (blk_cell R6.out.b2 0).trans rfl
              have f2_6_0 : w6.frozen? ⟨w.heap.size, 0, none⟩ = false := blk_frozen R6.out.b2 0
              have c5_6_1 : w6.cell? ⟨g5, 1, none⟩ = some (.int .i64 v4) := (blk_cell R6.out.b5 1).trans rfl
              have f5_6_1 : w6.frozen? ⟨g5, 1, none⟩ = false := blk_frozen R6.out.b5 1
              have c2_6_1 : w6.cell? ⟨w.heap.size, 1, none⟩ = some (.int .i64 0) := (blk_cell R6.out.b2 1).trans rfl
              have f2_6_1 : w6.frozen? ⟨w.heap.size, 1, none⟩ = false := blk_frozen R6.out.b2 1
              have c5_6_2 : w6.cell? ⟨g5, 2, none⟩ = some (.int .i64 0) := (blk_cell R6.out.b5 2).trans rfl
              have f5_6_2 : w6.frozen? ⟨g5, 2, none⟩ = false := blk_frozen R6.out.b5 2
              have c2_6_2 : w6.cell? ⟨w.heap.size, 2, none⟩ = some (.int .i64 0) := (blk_cell R6.out.b2 2).trans rfl
              have f2_6_2 : w6.frozen? ⟨w.heap.size, 2, none⟩ = false := blk_frozen R6.out.b2 2
              go_wp2_with fail
              refine (take.anyV k dec R6.out HD.out).mono ?_
              rintro e w7 ⟨rfl, A7, c7, R7⟩
              replace R7 := Aside0.mk R7
              clear c4_6 f4_6 c5_6_0 f5_6_0 c2_6_0 f2_6_0 c5_6_1 f5_6_1 c2_6_1 f2_6_1 c5_6_2 f5_6_2 c2_6_2 f2_6_2
              obtain ⟨v7, hv7⟩ : ∃ v, v = takeV dec zs := ⟨_, rfl⟩
              rw [← hv7]
              have V7 := Aside0.mk hv7
              clear hv7
              obtain ⟨us, hus⟩ : ∃ us, us = zs.drop 1 := ⟨_, rfl⟩
              rw [← hus] at R7
              have US := Aside0.mk hus
              clear hus
              have R8 := Aside0.mk (R7.out.set5 2 (.int .i64 v7) rfl)
              cases b2 : takeB dec zs with
              | false =>
                have B2 := Aside0.mk b2
                clear b2
                have c4_7 : w7.cell? ⟨g4, 0, none⟩ = some (.slice A7 us.length c7) := (blk_cell R7.out.b4 0).trans rfl
                have f4_7 : w7.frozen? ⟨g4, 0, none⟩ = false := blk_frozen R7.out.b4 0
                have c5_7_0 : w7.cell? ⟨g5, 0, none⟩ = some (.int .i64 op) := (blk_cell R7.out.b5 0).trans rfl
                have f5_7_0 : w7.frozen? ⟨g5, 0, none⟩ = false := blk_frozen R7.out.b5 0
                have c2_7_0 : w7.cell? ⟨w.heap.size, 0, none⟩ = some (.int .i64 0) := (blk_cell R7.out.b2 0).trans rfl
                have f2_7_0 : w7.frozen? ⟨w.heap.size, 0, none⟩ = false := blk_frozen R7.out.b2 0
                have c5_7_1 : w7.cell? ⟨g5, 1, none⟩ = some (.int .i64 v4) := (blk_cell R7.out.b5 1).trans rfl
                have f5_7_1 : w7.frozen? ⟨g5, 1, none⟩ = false := blk_frozen R7.out.b5 1
                have c2_7_1 : w7.cell? ⟨w.heap.size, 1, none⟩ = some (.int .i64 0) := (blk_cell R7.out.b2 1).trans rfl
                have f2_7_1 : w7.frozen? ⟨w.heap.size, 1, none⟩ = false := blk_frozen R7.out.b2 1
                have c5_7_2 : w7.cell? ⟨g5, 2, none⟩ = some (.int .i64 0) := (blk_cell R7.out.b5 2).trans rfl
                have f5_7_2 : w7.frozen? ⟨g5, 2, none⟩ = false := blk_frozen R7.out.b5 2
                have c2_7_2 : w7.cell? ⟨w.heap.size, 2, none⟩ = some (.int .i64 0) := (blk_cell R7.out.b2 2).trans rfl
                have f2_7_2 : w7.frozen? ⟨w.heap.size, 2, none⟩ = false := blk_frozen R7.out.b2 2
                have c4_8 : (w7.setCell ⟨g5, 2, none⟩ (.int .i64 v7)).cell? ⟨g4, 0, none⟩ = some (.slice A7 us.length c7) := (blk_cell R8.out.b4 0).trans rfl
                have f4_8 : (w7.setCell ⟨g5, 2, none⟩ (.int .i64 v7)).frozen? ⟨g4, 0, none⟩ = false := blk_frozen R8.out.b4 0
                have c5_8_0 : (w7.setCell ⟨g5, 2, none⟩ (.int .i64 v7)).cell? ⟨g5, 0, none⟩ = some (.int .i64 op) := (blk_cell R8.out.b5 0).trans rfl
                have f5_8_0 : (w7.setCell ⟨g5, 2, none⟩ (.int .i64 v7)).frozen? ⟨g5, 0, none⟩ = false := blk_frozen R8.out.b5 0
                have c2_8_0 : (w7.setCell ⟨g5, 2, none⟩ (.int .i64 v7)).cell? ⟨w.heap.size, 0, none⟩ = some (.int .i64 0) := (blk_cell R8.out.b2 0).trans rfl
                have f2_8_0 : (w7.setCell ⟨g5, 2, none⟩ (.int .i64 v7)).frozen? ⟨w.heap.size, 0, none⟩ = false := blk_frozen R8.out.b2 0
                have c5_8_1 : (w7.setCell ⟨g5, 2, none⟩ (.int .i64 v7)).cell? ⟨g5, 1, none⟩ = some (.int .i64 v4) := (blk_cell R8.out.b5 1).trans rfl
                have f5_8_1 : (w7.setCell ⟨g5, 2, none⟩ (.int .i64 v7)).frozen? ⟨g5, 1, none⟩ = false := blk_frozen R8.out.b5 1
                have c2_8_1 : (w7.setCell ⟨g5, 2, none⟩ (.int .i64 v7)).cell? ⟨w.heap.size, 1, none⟩ = some (.int .i64 0) := (blk_cell R8.out.b2 1).trans rfl
                have f2_8_1 : (w7.setCell ⟨g5, 2, none⟩ (.int .i64 v7)).frozen? ⟨w.heap.size, 1, none⟩ = false := blk_frozen R8.out.b2 1
                have c5_8_2 : (w7.setCell ⟨g5, 2, none⟩ (.int .i64 v7)).cell? ⟨g5, 2, none⟩ = some (.int .i64 v7) := (blk_cell R8.out.b5 2).trans rfl
                have f5_8_2 : (w7.setCell ⟨g5, 2, none⟩ (.int .i64 v7)).frozen? ⟨g5, 2, none⟩ = false := blk_frozen R8.out.b5 2
                have c2_8_2 : (w7.setCell ⟨g5, 2, none⟩ (.int .i64 v7)).cell? ⟨w.heap.size, 2, none⟩ = some (.int .i64 0) := (blk_cell R8.out.b2 2).trans rfl
                have f2_8_2 : (w7.setCell ⟨g5, 2, none⟩ (.int .i64 v7)).frozen? ⟨w.heap.size, 2, none⟩ = false := blk_frozen R8.out.b2 2
                have P := Aside0.mk (R8.out.put2 op v4 v7)
                have e : readR dec (wordsOf s) = (op, v4, v7, false) := by
                  unfold readR
                  rw [OP.out, if_neg HZ.out, YS.out, EN.out]
                  simp only [Bool.false_eq_true, if_false, if_true]
                  rw [← V4.out, B1.out]
                  rw [EJ.out, ← ZS.out]
                  rw [← V7.out, ← US.out, B2.out]
                  rfl
                have E := Aside0.mk e
                clear e
                go_wp2_with fail
                go_region
                all_goals
                  go_wp2_with fail
                  refine bodyPost_ret (results_ct rfl _ _ w.heap.size 38 #[.int .i64 op, .int .i64 v4, .int .i64 v7] (0, 0) _ rfl P.out.1 Tryd.underlying38 rfl (by kernel_rfl)) rfl ?_
                  rw [E.out]
                  exact ⟨rfl, P.out.2.drew⟩
              | true =>
                have B2 := Aside0.mk b2
                clear b2
                have c4_7 : w7.cell? ⟨g4, 0, none⟩ = some (.slice A7 us.length c7) := (blk_cell R7.out.b4 0).trans rfl
                have f4_7 : w7.frozen? ⟨g4, 0, none⟩ = false := blk_frozen R7.out.b4 0
                have c5_7_0 : w7.cell? ⟨g5, 0, none⟩ = some (.int .i64 op) := (blk_cell R7.out.b5 0).trans rfl
                have f5_7_0 : w7.frozen? ⟨g5, 0, none⟩ = false := blk_frozen R7.out.b5 0
                have c2_7_0 : w7.cell? ⟨w.heap.size, 0, none⟩ = some (.int .i64 0) := (blk_cell R7.out.b2 0).trans rfl
                have f2_7_0 : w7.frozen? ⟨w.heap.size, 0, none⟩ = false := blk_frozen R7.out.b2 0
                have c5_7_1 : w7.cell? ⟨g5, 1, none⟩ = some (.int .i64 v4) := (blk_cell R7.out.b5 1).trans rfl
                have f5_7_1 : w7.frozen? ⟨g5, 1, none⟩ = false := blk_frozen R7.out.b5 1
                have c2_7_1 : w7.cell? ⟨w.heap.size, 1, none⟩ = some (.int .i64 0) := (blk_cell R7.out.b2 1).trans rfl
                have f2_7_1 : w7.frozen? ⟨w.heap.size, 1, none⟩ = false := blk_frozen R7.out.b2 1
                have c5_7_2 : w7.cell? ⟨g5, 2, none⟩ = some (.int .i64 0) := (blk_cell R7.out.b5 2).trans rfl
                have f5_7_2 : w7.frozen? ⟨g5, 2, none⟩ = false := blk_frozen R7.out.b5 2
                have c2_7_2 : w7.cell? ⟨w.heap.size, 2, none⟩ = some (.int .i64 0) := (blk_cell R7.out.b2 2).trans rfl
                have f2_7_2 : w7.frozen? ⟨w.heap.size, 2, none⟩ = false := blk_frozen R7.out.b2 2
                have c4_8 : (w7.setCell ⟨g5, 2, none⟩ (.int .i64 v7)).cell? ⟨g4, 0, none⟩ = some (.slice A7 us.length c7) := (blk_cell R8.out.b4 0).trans rfl
                have f4_8 : (w7.setCell ⟨g5, 2, none⟩ (.int .i64 v7)).frozen? ⟨g4, 0, none⟩ = false := blk_frozen R8.out.b4 0
                have c5_8_0 : (w7.setCell ⟨g5, 2, none⟩ (.int .i64 v7)).cell? ⟨g5, 0, none⟩ = some (.int .i64 op) := (blk_cell R8.out.b5 0).trans rfl
                have f5_8_0 : (w7.setCell ⟨g5, 2, none⟩ (.int .i64 v7)).frozen? ⟨g5, 0, none⟩ = false := blk_frozen R8.out.b5 0
                have c2_8_0 : (w7.setCell ⟨g5, 2, none⟩ (.int .i64 v7)).cell? ⟨w.heap.size, 0, none⟩ = some (.int .i64 0) := (blk_cell R8.out.b2 0).trans rfl
                have f2_8_0 : (w7.setCell ⟨g5, 2, none⟩ (.int .i64 v7)).frozen? ⟨w.heap.size, 0, none⟩ = false := blk_frozen R8.out.b2 0
                have c5_8_1 : (w7.setCell ⟨g5, 2, none⟩ (.int .i64 v7)).cell? ⟨g5, 1, none⟩ = some (.int .i64 v4) := (blk_cell R8.out.b5 1).trans rfl
                have f5_8_1 : (w7.setCell ⟨g5, 2, none⟩ (.int .i64 v7)).frozen? ⟨g5, 1, none⟩ = false := blk_frozen R8.out.b5 1
                have c2_8_1 : (w7.setCell ⟨g5, 2, none⟩ (.int .i64 v7)).cell? ⟨w.heap.size, 1, none⟩ = some (.int .i64 0) := (blk_cell R8.out.b2 1).trans rfl
                have f2_8_1 : (w7.setCell ⟨g5, 2, none⟩ (.int .i64 v7)).frozen? ⟨w.heap.size, 1, none⟩ = false := blk_frozen R8.out.b2 1
                have c5_8_2 : (w7.setCell ⟨g5, 2, none⟩ (.int .i64 v7)).cell? ⟨g5, 2, none⟩ = some (.int .i64 v7) := (blk_cell R8.out.b5 2).trans rfl
                have f5_8_2 : (w7.setCell ⟨g5, 2, none⟩ (.int .i64 v7)).frozen? ⟨g5, 2, none⟩ = false := blk_frozen R8.out.b5 2
                have c2_8_2 : (w7.setCell ⟨g5, 2, none⟩ (.int .i64 v7)).cell? ⟨w.heap.size, 2, none⟩ = some (.int .i64 0) := (blk_cell R8.out.b2 2).trans rfl
                have f2_8_2 : (w7.setCell ⟨g5, 2, none⟩ (.int .i64 v7)).frozen? ⟨w.heap.size, 2, none⟩ = false := blk_frozen R8.out.b2 2
                have hne24 := R8.out.n24
                have hne42 := Ne.symm R8.out.n24
                have P := Aside0.mk (R8.out.put2 op v4 v7)
                have e : readR dec (wordsOf s) = (op, v4, v7, ((us.length : Int) == 0)) := by
                  unfold readR
                  rw [OP.out, if_neg HZ.out, YS.out, EN.out]
                  simp only [Bool.false_eq_true, if_false, if_true]
                  rw [← V4.out, B1.out]
                  rw [EJ.out, ← ZS.out]
                  rw [← V7.out, ← US.out, B2.out]
                  rfl
                have E := Aside0.mk e
                clear e
                go_wp2_with fail
                go_region
                all_goals
                  go_wp2_with fail
                  refine bodyPost_ret (results_ct rfl _ _ w.heap.size 38 #[.int .i64 op, .int .i64 v4, .int .i64 v7] (0, 0) _ rfl P.out.1 Tryd.underlying38 rfl (by kernel_rfl)) rfl ?_
                  rw [E.out]
                  exact ⟨rfl, P.out.2.drew⟩
end Go.Proofs.YtakpkmkjhndpjaaDoor.Q

/- impl.ProgramRead: of every text what 'rl' reads out of its lines. -/
namespace Go.Proofs.YtakpkmkjhndpjaaDoor.Q
open Go.RowKit Go.Shelf Go.Proofs.YtakpkmkjhndpjaaDoor.R Go.Proofs.YtakpkmkjhndpjaaDoorW.PrintWords Go.Proofs.YtakpkmkjhndpjaaDoorW.PrintLast
set_option linter.unusedVariables false
set_option linter.unusedSimpArgs false

def cutA (s : ByteArray) : ByteArray := ⟨(Lib.cut s.data.toList [10]).1.toArray⟩
def cutZ (s : ByteArray) : ByteArray := ⟨(Lib.cut s.data.toList [10]).2.1.toArray⟩
def cutB (s : ByteArray) : Bool := (Lib.cut s.data.toList [10]).2.2
def insOf (r : Int × Int × Int × Bool) : S38 := ⟨r.1, r.2.1, r.2.2.1⟩
/-- what is read out of a text's lines, behind what was read already -/
def rl (dec : ByteArray → Int × Bool) (k : Nat) : Nat → ByteArray → List S38 → Option (List S38 × Int × Int)
  | 0, _, _ => none
  | j + 1, s, out => if s.size = 0 then (impl_ProgramOK.f k out).bind fun b => some (if b = true then (out, 0, 0) else ([], 10, 0))
      else if cutB s = true then (if (readR dec (wordsOf (cutA s))).2.2.2 = true then rl dec k j (cutZ s) (out ++ [insOf (readR dec (wordsOf (cutA s)))]) else some ([], 2, out.length)) else some ([], 2, out.length)
theorem cut_sizes (s : ByteArray) (h : ¬ s.size = 0) : (cutA s).size ≤ s.size ∧ (cutB s = true → (cutZ s).size + 1 ≤ s.size) := by
  have hd : (⟨#[10]⟩ : ByteArray).data.toList = [10] := rfl
  rcases Lib.indexB_cases s (⟨#[10]⟩ : ByteArray) with hi | ⟨i, hi, hl⟩
  · obtain ⟨h1, h2, h3⟩ := Lib.cutB_miss s (⟨#[10]⟩ : ByteArray) hi
    refine ⟨?_, fun hb => ?_⟩
    · show (ByteArray.mk (Lib.cut s.data.toList [10]).1.toArray).size ≤ _
      rw [← hd, h1]
      exact Nat.le_refl _
    · exact absurd (h3.symm.trans hb) (by decide)
  · obtain ⟨h1, h2, h3⟩ := Lib.cutB_hit s (⟨#[10]⟩ : ByteArray) i hi
    have e1 : cutA s = s.extract 0 i := h1
    have e2 : cutZ s = s.extract (i + 1) s.size := h2
    rw [e1, e2, ByteArray.size_extract, ByteArray.size_extract]
    omega

theorem wrapC (n : Nat) (h : n ≤ 1000000) : wrap64 ((n : Int) + 1) = ((n + 1 : Nat) : Int) := by
  unfold wrap64
  omega
theorem empty_is (t : ByteArray) : (!t.toList.isEmpty) = !decide (t.size = 0) := by
  rw [ByteArray.toList_eq]
  congr 1
  rw [Bool.eq_iff_iff, List.isEmpty_iff, decide_eq_true_iff]
  show _ ↔ t.data.size = 0
  rw [← Array.length_toList]
  exact List.length_eq_zero_iff.symm
set_option maxHeartbeats 1000000 in
set_option maxRecDepth 100000 in
theorem impl_ProgramRead.far (s : ByteArray) (hs : 400000 < s.size) (w : World) :
    Calls Tryd.prog 11 #[.string s] w fun e w' => e = .returned (.tuple #[.slice none 0 0, .int .i64 1, .int .i64 0]) ∧ Below w.heap.size w w' := by
  have c1 : decide ((400000 : Int) < (s.size : Int)) = true := decide_eq_true (by omega)
  have c2 : decide (400000 < s.size) = true := decide_eq_true (by omega)
  go_enter Tryd.func11, Tryd.ntmps11
  go_wp2
  go_ret3
  exact ⟨rfl, by repeat (first | exact Below.refl _ _ | apply below_alloc | apply pw_below_drewN | apply below_drew1)⟩

set_option maxHeartbeats 1000000 in
set_option maxRecDepth 100000 in
theorem impl_ProgramRead.near (k : Nat) (dec : ByteArray → Int × Bool) (s : ByteArray) (hs : s.size ≤ 400000) (m : Int) (w : World) (hm : w.cell? ⟨0, 0, none⟩ = some (.int .i64 m)) (hd : ∀ y, impl_decimal.f k y = some (dec y))
    (j : Nat) (r1 : List S38) (r2 r3 : Int) (h : rl dec k j s [] = some (r1, r2, r3)) :
    Calls Tryd.prog 11 #[.string s] w fun e w' => ∃ v0_ : Value, e = .returned (.tuple #[v0_, .int .i64 r2, .int .i64 r3]) ∧ Kd.R k38 38 w' w.heap.size (fun _ => True) v0_ r1 ∧ Below w.heap.size w w' := by
  have c1 : decide ((400000 : Int) < (s.size : Int)) = false := decide_eq_false (by omega)
  have c2 : decide (400000 < s.size) = false := decide_eq_false (by omega)
  have HM := Aside0.mk hm
  have HD := Aside0.mk hd
  have HB := Aside0.mk (Below.refl w.heap.size w)
  have H := Aside0.mk h
  have HS := Aside0.mk hs
  clear hm hd h hs
  go_enter Tryd.func11, Tryd.ntmps11
  go_wp2_with fail
  go_loopg [0, 5, 6] j (fun kq v0 v5 v6 w' => ∃ (t : ByteArray) (xs : List S38), v0 = .string t ∧ v6 = .int .i64 xs.length ∧ Aside0 (rl dec k kq t xs = some (r1, r2, r3)) ∧ Aside0 (kq ≤ j) ∧ Aside0 (t.size + xs.length ≤ 400000) ∧ Aside0 (Kd.R k38 38 w' w.heap.size (fun _ => True) v5 xs) ∧ Aside0 (Below w.heap.size w w'))
  case atStart => exact ⟨s, [], rfl, rfl, H, ⟨Nat.le_refl _⟩, ⟨by have := HS.out; simp; omega⟩, ⟨Kd.R_nil _ _ _ _ _⟩, HB⟩
  case round =>
    clear H c1 c2
    obtain ⟨t, xs, rfl, rfl, H, HK, HL, HO, HB⟩ := hrel
    cases gk with
    | zero => exact absurd H.out (by simp [rl])
    | succ k1 =>
      have h := H.out
      clear H
      simp only [rl] at h
      by_cases h0 : t.size = 0
      · rw [if_pos h0] at h
        obtain ⟨b, hb, h⟩ := Option.bind_eq_some_iff.mp h
        have he : (!t.toList.isEmpty) = false := by rw [empty_is]; simp [h0]
        have HO2 := HO
        obtain ⟨A, c, rfl⟩ := Kd.R_slice HO.out
        have HP := Aside0.mk hb
        have h2 : some (if b = true then (xs, (0 : Int), (0 : Int)) else ([], 10, 0)) = some (r1, r2, r3) := h
        clear h hb
        cases b with
        | true =>
          simp only [if_true, Option.some.injEq, Prod.mk.injEq] at h2
          obtain ⟨rfl, rfl, rfl⟩ := h2
          go_wp2_with fail
          refine (impl_ProgramOK.calls k _ _ xs true _ (Kd.R_reads' HO.out).2.2 (Kd.R_reads' HO.out).2.1 HP.out).mono ?_
          rintro e w2 ⟨rfl, hb⟩
          have R2 := Aside0.mk (Kd.R_below HO.out hb)
          have B2 := Aside0.mk (below_step HB.out hb)
          clear hb HO2 HO HB
          go_wp2_with fail
          go_ret3
          exact ⟨_, rfl, by (with_reducible repeat (first | apply Kd.R_alloc | apply Kd.R_drewN | apply Kd.R_drew)); exact R2.out, by repeat (first | (with_reducible first | exact B2.out | apply below_alloc | apply pw_below_drewN | apply below_drew1) | exact B2.out)⟩
        | false =>
          simp only [Bool.false_eq_true, if_false, Option.some.injEq, Prod.mk.injEq] at h2
          obtain ⟨rfl, rfl, rfl⟩ := h2
          go_wp2_with fail
          refine (impl_ProgramOK.calls k _ _ xs false _ (Kd.R_reads' HO.out).2.2 (Kd.R_reads' HO.out).2.1 HP.out).mono ?_
          rintro e w2 ⟨rfl, hb⟩
          have R2 := Aside0.mk (Kd.R_below HO.out hb)
          have B2 := Aside0.mk (below_step HB.out hb)
          clear hb HO2 HO HB
          go_wp2_with fail
          go_ret3
          exact ⟨_, rfl, Kd.R_nil _ _ _ _ _, by repeat (first | (with_reducible first | exact B2.out | apply below_alloc | apply pw_below_drewN | apply below_drew1) | exact B2.out)⟩
      · rw [if_neg h0] at h
        have he : (!t.toList.isEmpty) = true := by rw [empty_is]; simp [h0]
        have HC := Aside0.mk (cut_sizes t h0)
        have HH := Aside0.mk h
        clear h
        go_wp2_with fail
        refine (Tryd.strings_Cut t (⟨#[10]⟩ : ByteArray) m _ (by have := HL.out; omega) ((HB.out.cell (World.block_lt_of_cell? w _ HM.out)).trans HM.out)).mono ?_
        rintro e w1 ⟨rfl, nd, rfl⟩
        rw [show (⟨(Lib.cut t.data.toList (⟨#[10]⟩ : ByteArray).data.toList).1.toArray⟩ : ByteArray) = cutA t from rfl, show (⟨(Lib.cut t.data.toList (⟨#[10]⟩ : ByteArray).data.toList).2.1.toArray⟩ : ByteArray) = cutZ t from rfl, show (Lib.cut t.data.toList (⟨#[10]⟩ : ByteArray).data.toList).2.2 = cutB t from rfl]
        have R1 := Aside0.mk (show Kd.R k38 38 (wr.drewN nd) w.heap.size (fun _ => True) u5 xs by apply Kd.R_drewN; exact HO.out)
        have B1 := Aside0.mk (pw_below_drewN HB.out nd)
        generalize wr.drewN nd = w1 at *
        clear HO HB
        obtain ⟨la, hla⟩ : ∃ x, x = cutA t := ⟨_, rfl⟩
        obtain ⟨lz, hlz⟩ : ∃ x, x = cutZ t := ⟨_, rfl⟩
        obtain ⟨lb, hlb⟩ : ∃ x, x = cutB t := ⟨_, rfl⟩
        obtain ⟨rr, hrr⟩ : ∃ x, x = readR dec (wordsOf la) := ⟨_, rfl⟩
        rw [← hla, ← hlz, ← hlb, ← hrr] at HH
        rw [← hla, ← hlz, ← hlb] at HC
        rw [← hla, ← hlz, ← hlb]
        have RR := Aside0.mk hrr
        clear hla hlz hlb hrr
        go_wp2_with fail
        refine (impl_readIns.calls k dec la (by have := HC.out.1; have := HL.out; omega) m _ ((B1.out.cell (World.block_lt_of_cell? w _ HM.out)).trans HM.out) HD.out).mono ?_
        rintro e w2 ⟨rfl, hb⟩
        rw [← RR.out]
        obtain ⟨op, n, tt, ok⟩ := rr
        have R2 := Aside0.mk (Kd.R_below R1.out hb)
        have B2 := Aside0.mk (below_step B1.out hb)
        clear hb R1 B1
        dsimp only
        have HC2 := Aside0.mk HC.out.2
        clear HC
        have h := HH.out
        clear HH
        cases lb with
        | false =>
          rw [if_neg (by decide)] at h
          simp only [Option.some.injEq, Prod.mk.injEq] at h
          obtain ⟨rfl, rfl, rfl⟩ := h
          go_wp2_with (first | ((with_reducible refine gate_dst (N := 10) rfl ?_); (try (refine gate_guard (by rfl) ?_; dsimp only)); refine box_event ?hg (N := 10) ?hd (cs := #[.int .i64 0, .int .i64 0, .int .i64 0]) (t := 38) ?hr ?_; (case hd => rfl); (case hg => rfl); (case hr => first | (go_simp; done) | (go_simp; rfl)); intro gb hg w3 hbox hb; have n0_ := Aside0.mk (Kd.R_below (Kd.R_elderB R2.out gb (Nat.le_of_eq hg.symm)) hb); have n1_ := Aside0.mk (below_step B2.out hb); have n2_ := Aside0.mk hbox; have n3_ := Aside0.mk ((by rw [hg]; exact (below_size B2.out)) : w.heap.size ≤ gb); clear R2 B2; have R2 := n0_; have B2 := n1_; have BK := n2_; have GE := n3_; clear n0_ n1_ n2_ n3_; clear hb hbox hg; have hcz_0 : w3.cell? ⟨gb, 0, none⟩ = some (.int .i64 0) := (blk_cell BK.out 0).trans rfl; have hcz_1 : w3.cell? ⟨gb, 1, none⟩ = some (.int .i64 0) := (blk_cell BK.out 1).trans rfl; have hcz_2 : w3.cell? ⟨gb, 2, none⟩ = some (.int .i64 0) := (blk_cell BK.out 2).trans rfl; have hfz_0 := blk_frozen BK.out 0; have hfz_1 := blk_frozen BK.out 1; have hfz_2 := blk_frozen BK.out 2))
          go_ret3
          exact ⟨_, rfl, Kd.R_nil _ _ _ _ _, (by repeat (first | (with_reducible first | exact B2.out | apply below_alloc | apply pw_below_drewN | apply below_drew1 | refine below_set ?_ GE.out) | exact B2.out))⟩
        | true =>
          rw [if_pos rfl] at h
          cases ok with
          | false =>
            rw [if_neg (show ¬ (false = true) by decide)] at h
            simp only [Option.some.injEq, Prod.mk.injEq] at h
            obtain ⟨rfl, rfl, rfl⟩ := h
            go_wp2_with (first | ((with_reducible refine gate_dst (N := 10) rfl ?_); (try (refine gate_guard (by rfl) ?_; dsimp only)); refine box_event ?hg (N := 10) ?hd (cs := #[.int .i64 0, .int .i64 0, .int .i64 0]) (t := 38) ?hr ?_; (case hd => rfl); (case hg => rfl); (case hr => first | (go_simp; done) | (go_simp; rfl)); intro gb hg w3 hbox hb; have n0_ := Aside0.mk (Kd.R_below (Kd.R_elderB R2.out gb (Nat.le_of_eq hg.symm)) hb); have n1_ := Aside0.mk (below_step B2.out hb); have n2_ := Aside0.mk hbox; have n3_ := Aside0.mk ((by rw [hg]; exact (below_size B2.out)) : w.heap.size ≤ gb); clear R2 B2; have R2 := n0_; have B2 := n1_; have BK := n2_; have GE := n3_; clear n0_ n1_ n2_ n3_; clear hb hbox hg; have hcz_0 : w3.cell? ⟨gb, 0, none⟩ = some (.int .i64 0) := (blk_cell BK.out 0).trans rfl; have hcz_1 : w3.cell? ⟨gb, 1, none⟩ = some (.int .i64 0) := (blk_cell BK.out 1).trans rfl; have hcz_2 : w3.cell? ⟨gb, 2, none⟩ = some (.int .i64 0) := (blk_cell BK.out 2).trans rfl; have hfz_0 := blk_frozen BK.out 0; have hfz_1 := blk_frozen BK.out 1; have hfz_2 := blk_frozen BK.out 2))
            go_ret3
            exact ⟨_, rfl, Kd.R_nil _ _ _ _ _, (by repeat (first | (with_reducible first | exact B2.out | apply below_alloc | apply pw_below_drewN | apply below_drew1 | refine below_set ?_ GE.out) | exact B2.out))⟩
          | true =>
            rw [if_pos rfl] at h
            obtain ⟨ys, hys⟩ : ∃ y, y = xs ++ [(⟨op, n, tt⟩ : S38)] := ⟨_, rfl⟩
            replace h : rl dec k k1 lz ys = some (r1, r2, r3) := by rw [hys]; exact h
            have NY := Aside0.mk hys
            have NL := Aside0.mk (show ys.length = xs.length + 1 by rw [hys]; simp)
            have H := Aside0.mk h
            clear h hys
            go_wp2_with (first | ((with_reducible refine gate_dst (N := 10) rfl ?_); (try (refine gate_guard (by rfl) ?_; dsimp only)); refine box_event ?hg (N := 10) ?hd (cs := #[.int .i64 0, .int .i64 0, .int .i64 0]) (t := 38) ?hr ?_; (case hd => rfl); (case hg => rfl); (case hr => first | (go_simp; done) | (go_simp; rfl)); intro gb hg w3 hbox hb; have n0_ := Aside0.mk (Kd.R_below (Kd.R_elderB R2.out gb (Nat.le_of_eq hg.symm)) hb); have n1_ := Aside0.mk (below_step B2.out hb); have n2_ := Aside0.mk hbox; have n3_ := Aside0.mk ((by rw [hg]; exact (below_size B2.out)) : w.heap.size ≤ gb); clear R2 B2; have R2 := n0_; have B2 := n1_; have BK := n2_; have GE := n3_; clear n0_ n1_ n2_ n3_; clear hb hbox hg; have hcz_0 : w3.cell? ⟨gb, 0, none⟩ = some (.int .i64 0) := (blk_cell BK.out 0).trans rfl; have hcz_1 : w3.cell? ⟨gb, 1, none⟩ = some (.int .i64 0) := (blk_cell BK.out 1).trans rfl; have hcz_2 : w3.cell? ⟨gb, 2, none⟩ = some (.int .i64 0) := (blk_cell BK.out 2).trans rfl; have hfz_0 := blk_frozen BK.out 0; have hfz_1 := blk_frozen BK.out 1; have hfz_2 := blk_frozen BK.out 2) | ((with_reducible refine gate_builtin (b := .append) (xs := #[.tmp 37, .tmp 39]) rfl ?_); (try (refine gate_guard (by rfl) ?_; dsimp only)); at_builtin; refine Kd.R_append k38 (w0 := w) w.heap.size rfl (.tmp 37) (.tmp 39) 26 38 (.agg #[(.int .i64 0), (.int .i64 0), (.int .i64 0)]) 24 rfl Tryd.underlying26 info38 rfl (by decide) (by omega) u5 xs (⟨op, n, tt⟩ : S38) [.int .i64 op, .int .i64 n, .int .i64 tt] (fun k_ => k_ ≠ gb) (fun _ => False) rfl (by first | (go_simp; done) | (go_simp; rfl)) ?aP (fun _ hk => hk.elim) ?aF ?aO ?aB ?aS ?aL ?_; (case aP => exact k38_mkM _ _ _ (⟨op, n, tt⟩ : S38)); (case aB => exact (by repeat (first | (with_reducible first | exact B2.out | apply below_alloc | apply pw_below_drewN | apply below_drew1 | refine below_set ?_ GE.out) | exact B2.out))); (case aF => exact (fun k_ hk => Kd.freshB (g := gb) (o := .cells #[.int .i64 op, .int .i64 n, .int .i64 tt] 38 (0, 0)) (by (with_reducible repeat (first | refine blk_drewN ?_ _ | refine blk_drew ?_ | refine blk_alloc ?_ _)); refine blk_put (cs := #[.int .i64 op, .int .i64 n, .int .i64 0]) ?_ 2 _ rfl; (with_reducible repeat (first | refine blk_drewN ?_ _ | refine blk_drew ?_ | refine blk_alloc ?_ _)); refine blk_put (cs := #[.int .i64 op, .int .i64 0, .int .i64 0]) ?_ 1 _ rfl; (with_reducible repeat (first | refine blk_drewN ?_ _ | refine blk_drew ?_ | refine blk_alloc ?_ _)); refine blk_put (cs := #[.int .i64 0, .int .i64 0, .int .i64 0]) ?_ 0 _ rfl; (with_reducible repeat (first | refine blk_drewN ?_ _ | refine blk_drew ?_ | refine blk_alloc ?_ _)); exact BK.out) k_ hk)); (case aO => exact (by (with_reducible repeat (first | apply Kd.R_alloc | apply Kd.R_drewN | apply Kd.R_drew)); exact Kd.R_mono (Kd.R_far (p := ⟨gb, 2, none⟩) (Kd.R_far (p := ⟨gb, 1, none⟩) (Kd.R_far (p := ⟨gb, 0, none⟩) (Kd.R_mono R2.out (fun k_ hk => (⟨hk, (by first | exact hk.2 | (have hk0_ := hk; revert hk0_; (try simp only [and_imp]); intros; (repeat' apply And.intro) <;> assumption))⟩ : _ ∧ k_ ≠ gb))) (fun _ hk => hk.2) (.int .i64 op)) (fun _ hk => hk.2) (.int .i64 n)) (fun _ hk => hk.2) (.int .i64 tt)) (fun _ hk => (by first | exact hk.1.2 | (have hk0_ := hk; revert hk0_; (try simp only [and_imp]); intros; (repeat' apply And.intro) <;> assumption))))); (case aS => exact (below_size (by repeat (first | (with_reducible first | exact B2.out | apply below_alloc | apply pw_below_drewN | apply below_drew1 | refine below_set ?_ GE.out) | exact B2.out)))); (case aL => have := HL.out; omega); intro v5 w4 ho hb hg hat; rw [← NY.out] at ho; have n1_ := Aside0.mk hb; have n2_ := Aside0.mk ho; clear BK B2 R2; have B2 := n1_; have R2 := n2_; clear n1_ n2_; clear ho hb hg hat))
            go_roundg k1
            case measure => have := HK.out; omega
            case rel => exact ⟨lz, ys, rfl, by rw [NL.out]; exact congrArg (Value.int .i64) (wrapC xs.length (by have := HL.out; omega)), H, ⟨by have := HK.out; omega⟩, ⟨by have := HC2.out (by first | rfl | trivial); have := NL.out; have := HL.out; omega⟩, ⟨Kd.R_mono R2.out (fun _ _ => trivial)⟩, ⟨(by repeat (first | (with_reducible first | exact B2.out | apply below_alloc | apply pw_below_drewN | apply below_drew1 | refine below_set ?_ GE.out) | exact B2.out))⟩⟩
end Go.Proofs.YtakpkmkjhndpjaaDoor.Q
