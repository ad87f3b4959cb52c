/- Proved: for every list of instructions the call laws.FnExactProgramShow(list) returns true and the list reads afterwards as before, the library's three tables being as the program's text lays them (the given statement FnExactProgramShowCardSaid: row and card). No condition besides the statement's own. -/
import Derived.Test.YtakpkmkjhndpjaaDoorRows
import Derived.Test.YtakpkmkjhndpjaaDoorCards
import Derived.Test.YtakpkmkjhndpjaaDoorTie
import Derived.Test.YtakpkmkjhndpjaaDoorHShowMath
import Derived.WalkKit
import Derived.ProofKit
import Derived.OpenShut
import Derived.LaidMore
import Derived.Deep.Slices
import Derived.Deep.Fields
import Derived.ChangeOld
import Derived.Below
import Derived.SizedLaws
import Derived.Lib.LaidTab
namespace Go.Proofs.YtakpkmkjhndpjaaDoor.showRow
open Go.ChangeShapes Go.WideShapes Go.ChangeAt Go.RowKit Go.Deep
open Go.Proofs.YtakpkmkjhndpjaaDoor.Q Go.Proofs.YtakpkmkjhndpjaaDoorW.PrintWords
set_option linter.unusedVariables false
theorem own : ownKnob Tryd.prog.godebug = none := by kernel_rfl
theorem laidOut : laidOutB Tryd.prog = true := by kernel_rfl
/-- three cells read as an instruction -/
theorem ins_cells {H : Type} {enc : TypeId × Value → H} {W : World} {base : Nat} {sp : Nat → Bool} {held : Bool} {fuel : Nat} {cs : List Value} {x : DataW H × List MemPlace} (h : DataW.trod enc Tryd.prog W base sp held fuel 40 cs = some x) :
    ∃ a b c : Int, cs = [.int .i64 a, .int .i64 b, .int .i64 c] := by
  obtain ⟨xs, n, _, _, hlen, hxl, hat⟩ := DataW.trod_struct Tryd.underlying40 h
  have hc : Tryd.prog.cellsOf 40 = 3 := by kernel_rfl
  have hc3 : Tryd.prog.cellsOf 3 = 1 := by kernel_rfl
  rw [hc] at hlen
  match cs, hlen with
  | [c0, c1, c2], _ =>
    match xs, hxl with
    | [x0, x1, x2], _ =>
      have h0 : DataW.trod enc Tryd.prog W base sp held n 3 (([c0, c1, c2].drop 0).take (Tryd.prog.cellsOf 3)) = some x0 := hat 0 _ rfl
      have h1 : DataW.trod enc Tryd.prog W base sp held n 3 (([c0, c1, c2].drop 1).take (Tryd.prog.cellsOf 3)) = some x1 := hat 1 _ rfl
      have h2 : DataW.trod enc Tryd.prog W base sp held n 3 (([c0, c1, c2].drop 2).take (Tryd.prog.cellsOf 3)) = some x2 := hat 2 _ rfl
      rw [hc3] at h0 h1 h2
      obtain ⟨a, e0, _⟩ := DataW.trod_int Tryd.underlying3 h0
      obtain ⟨b, e1, _⟩ := DataW.trod_int Tryd.underlying3 h1
      obtain ⟨c, e2, _⟩ := DataW.trod_int Tryd.underlying3 h2
      simp at e0 e1 e2
      exact ⟨a, b, c, by rw [e0, e1, e2]⟩
theorem ins_list {W : World} {ad : Addr} (n : Nat) (h : ∀ i, i < n → ∃ a b c : Int, W.cell? (ad.add (i * 3)) = some (.int .i64 a) ∧ W.cell? (ad.add (i * 3 + 1)) = some (.int .i64 b) ∧ W.cell? (ad.add (i * 3 + 2)) = some (.int .i64 c)) :
    ∃ l : List S40, l.length = n ∧ ∀ j p, l[j]? = some p → ∃ c, c.length = 3 ∧ k40.K W p c ∧ ∀ i u, c[i]? = some u → W.cell? (ad.add (j * 3 + i)) = some u := by
  induction n with
  | zero => exact ⟨[], rfl, fun j p hp => by simp at hp⟩
  | succ n ih =>
    obtain ⟨l, hl, hg⟩ := ih (fun i hi => h i (by omega))
    obtain ⟨a, b, c, h0, h1, h2⟩ := h n (by omega)
    refine ⟨l ++ [⟨a, b, c⟩], by rw [List.length_append, hl]; rfl, fun j p hp => ?_⟩
    rcases Nat.lt_or_ge j l.length with hj | hj
    · rw [List.getElem?_append_left hj] at hp
      exact hg j p hp
    · have hj2 : j = n := by
        have := (List.getElem?_eq_some_iff.1 hp).1
        rw [List.length_append] at this
        simp only [List.length_cons, List.length_nil] at this
        omega
      subst hj2
      rw [List.getElem?_append_right hj, hl, Nat.sub_self] at hp
      have hp' : p = ⟨a, b, c⟩ := (Option.some.inj hp).symm
      subst hp'
      refine ⟨_, rfl, k40_mk W ⟨a, b, c⟩, fun i u hu => ?_⟩
      match i, hu with
      | 0, hu => cases hu; exact h0
      | 1, hu => cases hu; exact h1
      | 2, hu => cases hu; exact h2
theorem ins_reads {H : Type} {enc : TypeId × Value → H} {W : World} {base : Nat} {sp : Nat → Bool} {held : Bool} {A : Option Addr} {len cap : Nat} {d : DataW H} {p : List MemPlace}
    (h : DataW.Trod enc Tryd.prog W base sp held 22 (.slice A len cap) d p) : ∃ l : List S40, l.length = len ∧ len ≤ cap ∧ len ≤ 9223372036854775807 ∧ Kd.C k40 W A len l := by
  obtain ⟨fuel, hf⟩ := h
  rcases open_slice Tryd.underlying22 hf with ⟨hcs, _⟩ | ⟨a, l, c, m, n, D, Pl, hcs, _, hl, hm, hmm, _, hi⟩
  · simp [Value.cells] at hcs
    obtain ⟨rfl, rfl, rfl⟩ := hcs
    exact ⟨[], rfl, by omega, by omega, rfl, by omega, fun h => absurd h (by omega)⟩
  · simp [Value.cells] at hcs
    obtain ⟨rfl, rfl, rfl⟩ := hcs
    have hc : Tryd.prog.cellsOf 40 = 3 := by kernel_rfl
    have hlm : len ≤ m := by rw [hmm]; split <;> omega
    have hmax : len ≤ 9223372036854775807 := by unfold maxLen at hm; omega
    obtain ⟨l, hll, hg⟩ := ins_list (W := W) (ad := a) len (fun i hil => by
      obtain ⟨cs', hc', ht'⟩ := hi i (by omega)
      rw [hc] at hc'
      obtain ⟨_, _, hat⟩ := World.cells?_some hc'
      obtain ⟨x, y, z, rfl⟩ := ins_cells ht'
      have h0 := hat 0 (by omega)
      have h1 := hat 1 (by omega)
      have h2 := hat 2 (by omega)
      rw [Go.Deep.add_add] at h0 h1 h2
      exact ⟨x, y, z, h0, h1, h2⟩)
    exact ⟨l, hll, hl, hmax, hll, hmax, fun _ => ⟨a, rfl, hg⟩⟩

theorem door_met (os : Os) (args : Array Value) : laidMetH Tryd.prog Rows.fnExactProgramShowRow.laid ((World.doorLaid Tryd.prog 400 os).forCall (fun _ _ => 0) ⟨#[], args, []⟩).memory :=
  laidMetH_of_parts3 (fuel := 8) (laidMet_of_run' 8 (by kernel_rfl) (by kernel_rfl)) (by kernel_rfl) (by kernel_rfl)
theorem tab_of {W : World} (h : laidMetH Tryd.prog Rows.fnExactProgramShowRow.laid W) : Lib.TabIs Tryd.prog W "internal/strconv.uint64pow10" .u64 Lib.pow10Tab := by
  rw [MakeChecks.laidMetH_plain _ _ _ (by kernel_rfl)] at h
  obtain ⟨ps, ⟨_, _, _, _, _, _, _, _, _, _, ⟨_, _, _, _, _, _, _, _, _, _, ⟨g, t, cs, fuel, p, q, hg, ht, hv, hd, _, _⟩, _⟩, _⟩, _⟩ := h
  have gg : Tryd.prog.globalNamed "internal/strconv.uint64pow10" = some 1 := by kernel_rfl
  obtain rfl := Option.some.inj (gg.symm.trans hg)
  have gt : (Tryd.prog.globals[1]?).map (·.type) = some 92 := by kernel_rfl
  obtain rfl := Option.some.inj (gt.symm.trans ht)
  have hd' : DataW.trod _ Tryd.prog _ _ _ _ fuel 92 cs.toList = some (Lib.tabData .u64 Lib.pow10Tab, p) := hd
  have e := Lib.cells_of_tab Tryd.underlying92 Tryd.underlying80 (by kernel_rfl) (by kernel_rfl) hd'
  unfold Lib.TabIs
  rw [hv, ← e]
set_option maxRecDepth 100000 in
theorem lifted (os : Os) (started : os.Started) (H : Type) (enc : TypeId × Value → H) :
    ReturnsInHanded {} Tryd.checked os 3 .any (fun w args => (Rows.fnExactProgramShowSpec.pre enc Tryd.prog Tryd.f3 [] false w args ∧ laidMetH Tryd.prog Rows.fnExactProgramShowRow.laid w) ∧ sizedMet enc Tryd.prog Tryd.f3 (OpenSpec.ofChange Rows.fnExactProgramShowSpec) false w args)
      (Rows.fnExactProgramShowSpec.post enc Tryd.prog Tryd.f3 false true false false) := by
  refine returnsInHanded_of_change_and (C := Tryd.checked) (X := fun w _ => laidMetH Tryd.prog Rows.fnExactProgramShowRow.laid w) (fun _ _ _ hh h => h.of_heap hh) own started (by kernel_rfl) Tryd.func3
    (ChangeSpec.witness_shaped (enc := enc) (C := Tryd.checked) (os := os) (X := fun w _ => laidMetH Tryd.prog Rows.fnExactProgramShowRow.laid w) false (World.doorLaid Tryd.prog 400 os) #[.slice none 0 0] 8 rfl (World.shaped_of_RefB (by kernel_rfl) (by kernel_rfl)) (by kernel_rfl) (by kernel_rfl) (by kernel_rfl) (door_met os _)) ?_
  intro W base args ds gs before hval0 hW _ _ hL _
  have hval : ∀ (j : Nat) t v, Tryd.f3.params[j]? = some t → args[j]? = some v → Value.okWide Tryd.prog W .any base t v := hval0
  have hW' := hW
  obtain ⟨p, q, hA0, hV, rfl, hfz, hnd⟩ := hW
  have hA : DataW.TrodAll enc Tryd.prog W 0 (fun _ => true) true Tryd.f3.params.toList args.toList ds p := hA0
  rw [Tryd.params3] at hA hval
  obtain ⟨v0, vs0, d0, ds0, p0, q0, hargs, rfl, rfl, h0, r0⟩ := trodAll_cons hA
  obtain ⟨rfl, rfl, rfl⟩ := trodAll_nil r0
  obtain rfl : args = #[v0] := by cases args; simp_all
  obtain ⟨rfl, rfl⟩ := trodVars_none hV
  obtain ⟨a0, len0, cap0, rfl⟩ := okWide_slice Tryd.underlying22 (hval 0 22 v0 rfl rfl)
  have k0 := h0
  have lt0 : ∀ x ∈ p0, x.block < W.heap.size := by obtain ⟨m, hm⟩ := k0; exact DataW.trod_lt m _ _ _ hm
  obtain ⟨l, rfl, hlc, hm, hr⟩ := ins_reads h0
  clear hA0 hval0
  refine (Pure.showLaw l a0 cap0 W hr hlc hm (tab_of hL)).mono fun e W' ⟨he, bel⟩ => ?_
  subst he
  exact ⟨_, rfl, _, _, _, [], _, [], hW', trodAll_mk1 (shut_bool Tryd.underlying4 _), (trodAll_cons_mk (Below.trod laidOut (by kernel_rfl) (of_decide_eq_true (by kernel_rfl)) k0 bel lt0) trodAll_mk0), rfl, bel.frame _, fun h => by cases h⟩
theorem row_holds : Rows.FnExactProgramShowSaid :=
  OpenClaim.holds_of_wide 3 Tryd.f3 rfl rfl rfl rfl rfl rfl rfl ⟨rfl, rfl, rfl, rfl, rfl⟩ rfl rfl rfl rfl rfl (by kernel_rfl) Tryd.func3 (by kernel_rfl)
    (of_decide_eq_true (by kernel_rfl)) (by unfold Func.isWrapper; first | (rw [if_pos (by decide +kernel)]; kernel_rfl) | (rw [if_neg (by decide +kernel)]; exact ⟨rfl, rfl⟩))
    (fun os started H enc _ => lifted os started H enc)
theorem card_holds : Rows.FnExactProgramShowCardSaid :=
  Claim7.holds_tied_plain_at .later [] [.data, .data, .data] true (true, "ce7a4cca0c0458c4bfed3d555fd34c1a3aec5edc52d39735ed753d08c68cade7") false
    row_holds (fun _ h => by cases h) (by kernel_rfl) (fun _ h => by cases h) fnExactProgramShow_row_tie rfl ⟨rfl, rfl⟩ (by kernel_rfl) rfl
    (fun f fn hf hfn => by
      obtain rfl : f = 3 := Option.some.inj ((show Tryd.prog.funcNamed "loop.example/g00037/laws.FnExactProgramShow" = some 3 by kernel_rfl).symm.trans hf) |>.symm
      obtain rfl : fn = Tryd.f3 := (Option.some.inj (Tryd.func3.symm.trans hfn)).symm
      exact ⟨by kernel_rfl, fun j t ht => by
        rw [Tryd.params3] at ht
        have hm : t ∈ [22] := by simpa using Array.mem_of_getElem? ht
        have hall : ([22].all fun u => !Tryd.prog.wantsStandIn u) = true := by kernel_rfl
        exact (show Tryd.prog.wantsStandIn t = false by simpa using List.all_eq_true.1 hall t hm)⟩)
    (by kernel_rfl)
#print axioms card_holds
end Go.Proofs.YtakpkmkjhndpjaaDoor.showRow
