/- Written by a program of this session (wip/mp.sh) out of the translation: plain functions that answer as the functions of the given program do, and the proofs that they do; no condition of its own. -/
import Derived.Test.YtakpkmkjhndpjaaDoorQx0
import Derived.Test.YtakpkmkjhndpjaaDoorQx13
namespace Go.Proofs.YtakpkmkjhndpjaaDoor.Q
open Go.RowKit Go.Proofs.YtakpkmkjhndpjaaDoorW.PrintWords Go.Proofs.YtakpkmkjhndpjaaDoorW.PrintLast Go.Proofs.YtakpkmkjhndpjaaDoorW.PrintMore
attribute [local go_sem] max2_int min2_int max_two min_two max_three min_three max_four min_four   -- for this text's walks alone
set_option linter.unusedVariables false
set_option linter.unusedSimpArgs false

/-! ### impl_jumps: function 22 -/
def impl_jumps.f (a0 : Int) : Option (Bool) := if a0 = 5 then (some true) else ((impl_ifs.f a0).bind fun t154 => (some t154))
set_option maxHeartbeats 8000000 in
set_option maxRecDepth 100000 in
theorem impl_jumps.calls (a0 : Int) (r : Bool) (w : World) (h : impl_jumps.f a0 = some r) :
    Calls Tryd.prog 22 #[.int .i64 a0] w fun e w' => e = .returned (.bool r) ∧ Drawn0 w w' := by
  have H : (if a0 = 5 then (some true) else ((impl_ifs.f a0).bind fun t154 => (some t154))) = some r := h
  clear h
  by_cases c2 : a0 = 5
  · rw [if_pos c2] at H
    have c2b0 : (a0 == 5) = true := beq_iff_eq.mpr c2
    have c2b1 : (a0 != 5) = false := bne_eq_false_iff_eq.mpr c2
    clear c2
    obtain rfl := Option.some.inj H
    go_enter Tryd.func22, Tryd.ntmps22
    go_wp2
    go_ret
    exact ⟨by first | rfl | (simp; done) | (simp [*]; done) | (simp [bne]; done) | (simp [bne, *]; done), by repeat (first | exact Drawn0.refl _ | apply Drawn0.step)⟩
  · rw [if_neg c2] at H
    have c2b0 : (a0 == 5) = false := beq_eq_false_iff_ne.mpr c2
    have c2b1 : (a0 != 5) = true := bne_iff_ne.mpr c2
    replace H := Option.bind_eq_some_iff.mp H
    obtain ⟨t154, A30, H⟩ := H
    replace H : (some t154) = some r := H
    have A3 := Aside0.mk A30
    clear A30
    obtain rfl := Option.some.inj H
    go_enter Tryd.func22, Tryd.ntmps22
    go_wp2_with (first | (go_at_call 40; (with_reducible refine (impl_ifs.calls a0 t154 _ A3.out).mono ?_); rintro e w' ⟨rfl, ⟨nd, rfl⟩⟩))
    go_ret
    exact ⟨by first | rfl | (simp; done) | (simp [*]; done) | (simp [bne]; done) | (simp [bne, *]; done), by repeat (first | exact Drawn0.refl _ | apply Drawn0.step)⟩

end Go.Proofs.YtakpkmkjhndpjaaDoor.Q
