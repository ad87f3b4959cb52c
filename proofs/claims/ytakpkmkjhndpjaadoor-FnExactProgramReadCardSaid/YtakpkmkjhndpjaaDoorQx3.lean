/- Written by a program of this session (wip/mp.sh) out of the translation: plain functions that answer as the functions of the given program do, and the proofs that they do; no condition of its own. -/
import Derived.Test.YtakpkmkjhndpjaaDoorQx0
import Derived.Test.YtakpkmkjhndpjaaDoorQx2
namespace Go.Proofs.YtakpkmkjhndpjaaDoor.Q
open Go.RowKit Go.Proofs.YtakpkmkjhndpjaaDoorW.PrintWords Go.Proofs.YtakpkmkjhndpjaaDoorW.PrintLast Go.Proofs.YtakpkmkjhndpjaaDoorW.PrintMore
attribute [local go_sem] max2_int min2_int max_two min_two max_three min_three max_four min_four   -- for this text's walks alone
set_option linter.unusedVariables false
set_option linter.unusedSimpArgs false

/-! ### spec_l17HasTo: function 32 -/
def spec_l17HasTo.f (a0 : Int) : Option (Bool) := (spec_l01Between.f a0 5 8).bind fun t101 => (some t101)
set_option maxHeartbeats 8000000 in
set_option maxRecDepth 100000 in
theorem spec_l17HasTo.calls (a0 : Int) (r : Bool) (w : World) (h : spec_l17HasTo.f a0 = some r) :
    Calls Tryd.prog 32 #[.int .i64 a0] w fun e w' => e = .returned (.bool r) ∧ Drawn0 w w' := by
  have H : ((spec_l01Between.f a0 5 8).bind fun t101 => (some t101)) = some r := h
  clear h
  replace H := Option.bind_eq_some_iff.mp H
  obtain ⟨t101, A20, H⟩ := H
  replace H : (some t101) = some r := H
  have A2 := Aside0.mk A20
  clear A20
  obtain rfl := Option.some.inj H
  go_enter Tryd.func32, Tryd.ntmps32
  go_wp2_with (first | ((with_reducible refine gate_callee (f := 31) rfl ?_); refine goesL_ (some 4) rfl rfl Tryd.func31 (by kernel_rfl) rfl #[.int .i64 a0, .int .i64 5, .int .i64 8] rfl (by (try simp only [List.map_toArray, List.map_cons, List.map_nil]); first | done | rfl | (simp only [List.length_drop, List.length_take]; rfl)) ?_; (with_reducible refine (spec_l01Between.calls a0 5 8 t101 _ A2.out).mono ?_); rintro e w' ⟨rfl, ⟨nd, rfl⟩⟩; refine ⟨_, rfl, ?_⟩))
  go_ret
  exact ⟨by first | rfl | (simp; done) | (simp [*]; done) | (simp [bne]; done) | (simp [bne, *]; done), by repeat (first | exact Drawn0.refl _ | apply Drawn0.step)⟩

end Go.Proofs.YtakpkmkjhndpjaaDoor.Q
