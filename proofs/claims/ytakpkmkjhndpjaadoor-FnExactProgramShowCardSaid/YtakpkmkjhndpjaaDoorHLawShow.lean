/- The law's own walk: what is drawn out of the argument is shown alike by both sides, and the argument stays. -/
import Derived.Test.YtakpkmkjhndpjaaDoorQx1
import Derived.Test.YtakpkmkjhndpjaaDoorQx10
import Derived.Test.YtakpkmkjhndpjaaDoorQx12
import Derived.Test.YtakpkmkjhndpjaaDoorQx42
import Derived.Test.YtakpkmkjhndpjaaDoorHProg
namespace Go.Proofs.YtakpkmkjhndpjaaDoor.Q
open Go.RowKit Go.Shelf Go.Proofs.YtakpkmkjhndpjaaDoorW.PrintWords Go.Proofs.YtakpkmkjhndpjaaDoorW.PrintLast
set_option linter.unusedVariables false
set_option linter.unusedSimpArgs false

set_option maxHeartbeats 1000000 in
set_option maxRecDepth 100000 in
theorem showLaw.far (l : List S40) (A : Option Addr) (c : Nat) (w : World) (hr : Kd.C k40 w A l.length l) (hc : l.length ≤ c) (hs : laws_szInsS.f l 1048576 = some (-1)) :
    Calls Tryd.prog 3 #[.slice A l.length c] w fun e w' => e = .returned (.bool true) ∧ Below w.heap.size w w' := by
  have HR := Aside0.mk hr
  have HC := Aside0.mk hc
  have HS := Aside0.mk hs
  clear hr hc hs
  go_enter Tryd.func3, Tryd.ntmps3
  go_wp2_with (go_at_call 5; refine (laws_szInsS.calls A c l 1048576 (-1) w HR.out HC.out HS.out).mono ?_; rintro e w1 ⟨rfl, hd⟩; obtain ⟨nd, rfl⟩ := hd.out; clear hd)
  go_ret
  exact ⟨rfl, pw_below_drewN (Below.refl _ _) nd⟩
set_option maxHeartbeats 1000000 in
set_option maxRecDepth 100000 in
theorem showLaw.near (l : List S40) (m : List S38) (A : Option Addr) (c : Nat) (w : World) (hr : Kd.C k40 w A l.length l) (hc : l.length ≤ c) (r0 : Int) (h0 : 0 ≤ r0) (hs : laws_szInsS.f l 1048576 = some r0)
    (k : Nat) (h1 : laws_toInsS.f k l = some m) (r1 : ByteArray) (r2 : Int) (h2 : spec_ProgramShow.f k m = some (r1, r2))
    (h3 : ∀ (A : Option Addr) (c : Nat) (w' : World), Below w.heap.size w w' → Kd.C k38 w' A m.length m → m.length ≤ c → Calls Tryd.prog 8 #[.slice A m.length c] w' fun e w2 => e = .returned (.tuple #[.string r1, .int .i64 r2]) ∧ Below w'.heap.size w' w2)
    (h4 : laws_eqInsS.f k m m = some true) :
    Calls Tryd.prog 3 #[.slice A l.length c] w fun e w' => e = .returned (.bool true) ∧ Below w.heap.size w w' := by
  have HR := Aside0.mk hr
  have HC := Aside0.mk hc
  have HS := Aside0.mk hs
  have H1 := Aside0.mk h1
  have H2 := Aside0.mk h2
  have H3 := Aside0.mk h3
  have H4 := Aside0.mk h4
  clear hr hc hs h1 h2 h3 h4
  go_enter Tryd.func3, Tryd.ntmps3
  go_wp2_with fail
  refine (laws_szInsS.calls A c l 1048576 r0 w HR.out HC.out HS.out).mono ?_
  rintro e w1 ⟨rfl, hd⟩
  obtain ⟨nd, rfl⟩ := hd.out
  clear hd
  have B1 := Aside0.mk (pw_below_drewN (Below.refl w.heap.size w) nd)
  have hd0 : decide (r0 < 0) = false := decide_eq_false (by omega)
  go_wp2_with fail
  refine (laws_toInsS.calls k A c l m _ (Kd.C_below HR.out B1.out) HC.out H1.out).mono ?_
  rintro e w2 ⟨v0, rfl, hR2, hb2⟩
  have B2 := Aside0.mk (below_step B1.out hb2)
  obtain ⟨A2, c2, rfl⟩ := Kd.R_slice hR2
  have R2 := Aside0.mk (Kd.R_reads' hR2).2.2
  have L2 := Aside0.mk (Kd.R_reads' hR2).2.1
  clear hR2 hb2 B1
  go_wp2_with fail
  refine (spec_ProgramShow.calls k A2 c2 m r1 r2 _ R2.out L2.out H2.out).mono ?_
  rintro e w3 ⟨rfl, hb3⟩
  have B3 := Aside0.mk (below_step B2.out hb3)
  clear hb3 B2 R2 L2
  go_wp2_with fail
  refine (laws_toInsS.calls k A c l m _ (Kd.C_below HR.out B3.out) HC.out H1.out).mono ?_
  rintro e w4 ⟨v1, rfl, hR4, hb4⟩
  have B4 := Aside0.mk (below_step B3.out hb4)
  obtain ⟨A4, c4, rfl⟩ := Kd.R_slice hR4
  have R4 := Aside0.mk (Kd.R_reads' hR4).2.2
  have L4 := Aside0.mk (Kd.R_reads' hR4).2.1
  clear hR4 hb4 B3
  go_wp2_with fail
  refine (H3.out A4 c4 _ B4.out R4.out L4.out).mono ?_
  rintro e w5 ⟨rfl, hb5⟩
  have B5 := Aside0.mk (below_step B4.out hb5)
  have R5 := Aside0.mk (Kd.C_below R4.out hb5)
  clear hb5 B4 R4
  go_wp2_with fail
  refine (laws_toInsS.calls k A c l m _ (Kd.C_below HR.out B5.out) HC.out H1.out).mono ?_
  rintro e w6 ⟨v2, rfl, hR6, hb6⟩
  have B6 := Aside0.mk (below_step B5.out hb6)
  have R5' := Aside0.mk (Kd.C_below R5.out hb6)
  obtain ⟨A6, c6, rfl⟩ := Kd.R_slice hR6
  have R6 := Aside0.mk (Kd.R_reads' hR6).2.2
  have L6 := Aside0.mk (Kd.R_reads' hR6).2.1
  clear hR6 hb6 B5 R5
  go_wp2_with fail
  refine (laws_eqInsS.calls k A4 c4 m A6 c6 m true _ R5'.out L4.out R6.out L6.out H4.out).mono ?_
  rintro e w7 ⟨rfl, hb7⟩
  have B7 := Aside0.mk (below_step B6.out hb7)
  clear hb7
  go_wp2_with fail
  go_ret
  exact ⟨rfl, B7.out⟩
end Go.Proofs.YtakpkmkjhndpjaaDoor.Q
