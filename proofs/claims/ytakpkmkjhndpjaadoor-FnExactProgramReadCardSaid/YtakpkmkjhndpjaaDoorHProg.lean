/- impl.itoa and impl.ProgramShow: of every right program the text whose lines are 'lineI', or that it is too long; of every other one that it is none. The table of powers of ten is as the library lays it. -/
import Derived.Test.YtakpkmkjhndpjaaDoorQx0
import Derived.Test.YtakpkmkjhndpjaaDoorQx14
import Derived.Test.YtakpkmkjhndpjaaDoorQx16
import Derived.Test.YtakpkmkjhndpjaaDoorQx20
import Derived.Test.YtakpkmkjhndpjaaDoorQx21
import Derived.Test.YtakpkmkjhndpjaaDoorHBuilder
import Derived.Test.YtakpkmkjhndpjaaDoorHItoa
import Derived.Lib.AppendIntMem
import Derived.Lib.ItoaLen
namespace Go.Proofs.YtakpkmkjhndpjaaDoor.Q
open Go.RowKit Go.Shelf Go.Proofs.YtakpkmkjhndpjaaDoorW.PrintWords Go.Proofs.YtakpkmkjhndpjaaDoorW.PrintLast
set_option linter.unusedVariables false
set_option linter.unusedSimpArgs false

theorem cell_b {w w' : World} {a : Addr} {v : Value} (h : w.cell? a = some v) (hb : Below w.heap.size w w') : w'.cell? a = some v := (hb.cell (World.block_lt_of_cell? w _ h)).trans h
theorem isb_below {T e : TypeId} {B b : Nat} {bs : List Value} {w w' : World} (h : Lib.IsBuilderF T e B b bs w) (hb : Below w.heap.size w w') : Lib.IsBuilderF T e B b bs w' := by
  have one : ∀ p, Lib.BuilderAtF T e B b p bs w → Lib.BuilderAtF T e B b p bs w' := by
    rintro p ⟨hB, v, hc, ⟨hl, ho⟩, hne⟩
    refine ⟨hB, v, blk_below hc hb, ⟨hl, ?_⟩, hne⟩
    rcases ho with ho | ⟨g, cap, cur, fz, rfl, hbg, hg, hfz, hnc, hcm, hcs, ht⟩
    · exact .inl ho
    · exact .inr ⟨g, cap, cur, fz, rfl, hbg, blk_below hg hb, hfz, hnc, hcm, hcs, ht⟩
  exact h.imp (one _) (one _)
theorem below_grow (w : World) (k : Nat) (os : Array Obj) : Below w.heap.size w (Sort.grow (w.drewN k) os) :=
  ⟨rfl, rfl, rfl, by simp [Sort.grow], fun i hi => Sort.heap_grow_old (w.drewN k) os hi⟩

def itoaB (n : Int) : ByteArray := ⟨(Lib.itoa n).toArray⟩
theorem impl_itoa.calls (n : Int) (h0 : -9223372036854775808 ≤ n) (h1 : n ≤ 9223372036854775807) (w : World) (htab : Lib.TabIs Tryd.prog w "internal/strconv.uint64pow10" .u64 Lib.pow10Tab) :
    Calls Tryd.prog 21 #[.int .i64 n] w fun e w' => e = .returned (.string (itoaB n)) ∧ Below w.heap.size w w' := by
  have HT := Aside0.mk htab
  clear htab
  go_enter Tryd.func21, Tryd.ntmps21
  go_wp2_with (go_at_call 39; refine (Tryd.strconv_Itoa n h0 h1 w HT.out).mono ?_; rintro e w1 ⟨rfl, kk, os, rfl⟩)
  go_ret
  exact ⟨rfl, below_grow w kk os⟩

def words11 : List ByteArray := [(⟨#[]⟩ : ByteArray), (⟨#[112, 117, 115, 104]⟩ : ByteArray), (⟨#[100, 114, 111, 112]⟩ : ByteArray), (⟨#[116, 101, 108, 108]⟩ : ByteArray), (⟨#[112, 97, 115, 115]⟩ : ByteArray), (⟨#[106, 117, 109, 112]⟩ : ByteArray), (⟨#[105, 102, 110, 101, 120, 116]⟩ : ByteArray), (⟨#[105, 102, 101, 110, 100]⟩ : ByteArray), (⟨#[105, 102, 116, 111, 112]⟩ : ByteArray), (⟨#[100, 111, 110, 101]⟩ : ByteArray), (⟨#[102, 97, 105, 108]⟩ : ByteArray)]
theorem words11_is : impl_insWords.f = some words11 := rfl
def wordB (op : Int) : ByteArray := rdOf ByteArray.empty words11 op
def hasNB (op : Int) : Bool := decide (op ≤ 3) || op == 6 || op == 8 || op == 10
def jumpsB (op : Int) : Bool := op == 5 || op == 6 || op == 7 || op == 8
theorem hasN_is (op : Int) : impl_hasN.f op = some (hasNB op) := by
  unfold impl_hasN.f hasNB
  by_cases h1 : op ≤ 3
  · simp [h1]
  · by_cases h2 : op = 6
    · simp [h2]
    · by_cases h3 : op = 8
      · simp [h3]
      · simp [h1, h2, h3]
theorem jumps_is (op : Int) : impl_jumps.f op = some (jumpsB op) := by
  unfold impl_jumps.f impl_ifs.f jumpsB
  by_cases h1 : op = 5
  · simp [h1]
  · by_cases h2 : op = 6
    · simp [h2]
    · by_cases h3 : op = 7
      · simp [h3]
      · simp [h1, h2, h3]
def spaced (n : Int) : ByteArray := (⟨#[32]⟩ : ByteArray) ++ itoaB n
def lineI (x : S38) : List UInt8 := ((((wordB x.f0).data.toList) ++ (if hasNB x.f0 then (spaced x.f1).data.toList else [])) ++ (if jumpsB x.f0 then (spaced x.f2).data.toList else [])) ++ [10]
def textI : List S38 → List UInt8
  | [] => []
  | x :: l => lineI x ++ textI l
theorem textI_append (l m : List S38) : textI (l ++ m) = textI l ++ textI m := by
  induction l with
  | nil => rfl
  | cons x l ih => simp [textI, ih]
/-- an instruction that can be written -/
def Can (x : S38) : Prop := 0 ≤ x.f0 ∧ x.f0 < 11 ∧ -9223372036854775808 ≤ x.f1 ∧ x.f1 ≤ 9223372036854775807 ∧ -9223372036854775808 ≤ x.f2 ∧ x.f2 ≤ 9223372036854775807
theorem spaced_size (n : Int) (h0 : -9223372036854775808 ≤ n) (h1 : n ≤ 9223372036854775807) : (spaced n).size ≤ 22 := by
  have := Lib.itoa_length_le n h0 h1
  unfold spaced itoaB
  rw [ByteArray.size_append]
  have e : (⟨#[32]⟩ : ByteArray).size = 1 := rfl
  have e2 : (⟨(Lib.itoa n).toArray⟩ : ByteArray).size = (Lib.itoa n).length := rfl
  omega
theorem wordB_size (op : Int) (h0 : 0 ≤ op) (h1 : op < 11) : (wordB op).size ≤ 6 := by
  have h : ∀ j : Nat, j < 11 → (rdOf ByteArray.empty words11 (j : Int)).size ≤ 6 := by decide
  have := h op.toNat (by omega)
  rw [Int.toNat_of_nonneg h0] at this
  exact this
theorem lineI_length (x : S38) (h : Can x) : (lineI x).length ≤ 60 := by
  obtain ⟨a, b, c, d, e, f⟩ := h
  have w := wordB_size x.f0 a b
  have s1 := spaced_size x.f1 c d
  have s2 := spaced_size x.f2 e f
  have t0 : (wordB x.f0).data.toList.length = (wordB x.f0).size := rfl
  have t1 : (spaced x.f1).data.toList.length = (spaced x.f1).size := rfl
  have t2 : (spaced x.f2).data.toList.length = (spaced x.f2).size := rfl
  unfold lineI
  cases hasNB x.f0 <;> cases jumpsB x.f0 <;> simp only [Bool.false_eq_true, if_false, if_true, List.length_append, List.length_cons, List.length_nil] <;> omega
theorem textI_length (l : List S38) (h : ∀ x ∈ l, Can x) : (textI l).length ≤ 60 * l.length := by
  induction l with
  | nil => simp [textI]
  | cons x l ih =>
    have h1 := lineI_length x (h x List.mem_cons_self)
    have h2 := ih (fun y hy => h y (List.mem_cons_of_mem _ hy))
    simp only [textI, List.length_append, List.length_cons]
    omega
theorem rd38_get (l : List S38) (i : Nat) (h : i < l.length) : rd_T38 l (i : Int) = l[i] := by simp [rd_T38, List.getD, h]
theorem textI_take (l : List S38) (i : Nat) (h : i < l.length) : textI (l.take (i + 1)) = textI (l.take i) ++ lineI (rd_T38 l (i : Int)) := by
  rw [List.take_succ_eq_append_getElem h, textI_append, rd38_get l i h]
  simp [textI]
def showR (l : List S38) : ByteArray × Int := if (textI l).length > 400000 then (⟨#[]⟩, 3) else (⟨(textI l).toArray⟩, 0)

set_option maxHeartbeats 1000000 in
set_option maxRecDepth 100000 in
theorem impl_ProgramShow.yes (l : List S38) (A : Option Addr) (c : Nat) (w : World) (hr : Kd.C k38 w A l.length l) (hc : l.length ≤ c) (htab : Lib.TabIs Tryd.prog w "internal/strconv.uint64pow10" .u64 Lib.pow10Tab)
    (k : Nat) (hok : impl_ProgramOK.f k l = some true) (hl : l.length ≤ 50000) (hx : ∀ x ∈ l, Can x) :
    Calls Tryd.prog 8 #[.slice A l.length c] w fun e w' => e = .returned (.tuple #[.string (showR l).1, .int .i64 (showR l).2]) ∧ Below w.heap.size w w' := by
  have HR := Aside0.mk hr
  have HC := Aside0.mk hc
  have OK := Aside0.mk hok
  have HX := Aside0.mk hx
  have HT := Aside0.mk (Lib.tabBelow_of_tabIs htab)
  clear hr hc hok hx htab
  go_enter Tryd.func8, Tryd.ntmps8
  go_wp2_with (go_at_call 17; refine (impl_ProgramOK.calls k A c l true w HR.out HC.out OK.out).mono ?_; rintro e w1 ⟨rfl, hb⟩; have HB := Aside0.mk hb; have HR1 := Aside0.mk (Kd.C_below HR.out hb); have HT1 := Aside0.mk (HT.out.on hb); clear hb)
  go_loopg [12] l.length (fun kq v12 w' => ∃ i : Nat, v12 = .int .i64 i ∧ Aside0 (i + kq = l.length) ∧ Aside0 (Lib.IsBuilderF 43 5 w1.heap.size w1.heap.size (Lib.byteCells (textI (l.take i))) w') ∧ Aside0 (Below w1.heap.size w1 w'))
  case atStart => exact ⟨0, rfl, ⟨by omega⟩, ⟨bl_new w1⟩, ⟨below_alloc (Below.refl _ _) _⟩⟩
  case round =>
    obtain ⟨i, rfl, HK, I, B⟩ := hrel
    by_cases hi : i < l.length
    · cases gk with
      | zero => exact absurd HK.out (by omega)
      | succ k1 =>
        have p : 0 ≤ (i : Int) := Int.natCast_nonneg i
        have q : (i : Int) < (l.length : Int) := by omega
        obtain ⟨ad, e, hx0, hx1, hx2⟩ := at_T38 HR1.out (i : Int) p q
        cases e
        replace hx0 := (B.out.cell (World.block_lt_of_cell? w1 _ hx0)).trans hx0
        replace hx1 := (B.out.cell (World.block_lt_of_cell? w1 _ hx1)).trans hx1
        replace hx2 := (B.out.cell (World.block_lt_of_cell? w1 _ hx2)).trans hx2
        obtain ⟨x, hxe⟩ : ∃ x, x = rd_T38 l (i : Int) := ⟨_, rfl⟩
        have hcan : Can x := by rw [hxe, rd38_get l i hi]; exact HX.out _ (List.getElem_mem hi)
        have XE := Aside0.mk hxe
        rw [← hxe] at hx0 hx1 hx2
        simp only [Int.toNat_natCast] at hx0 hx1 hx2
        clear hxe
        have hlen : (textI (l.take i)).length ≤ 3000000 := by
          have := textI_length (l.take i) (fun y hy => HX.out y (List.mem_of_mem_take hy))
          have := List.length_take_le i l
          omega
        have LEN := Aside0.mk hlen
        have CAN := Aside0.mk hcan
        have WS := Aside0.mk (wordB_size x.f0 hcan.1 hcan.2.1)
        have NE := Aside0.mk (Nat.ne_of_gt (isb_lt I.out))
        have hop : (0 ≤ x.f0) = True := eq_true hcan.1
        have hop2 : (x.f0 < (words11.length : Int)) = True := eq_true hcan.2.1
        clear hlen
        replace p := eq_true p
        replace q := eq_true q
        have BX := Aside0.mk (blk_new wr (.cells #[.int .i64 x.f0, .int .i64 x.f1, .int .i64 x.f2] 38))
        have hc0 : (wr.alloc (.cells #[.int .i64 x.f0, .int .i64 x.f1, .int .i64 x.f2] 38)).cell? ⟨wr.heap.size, 0, none⟩ = some (.int .i64 x.f0) := (blk_cell BX.out 0).trans rfl
        go_upto_region 7 with (fail)
        go_cut [] (fun wc => Aside0 (Lib.IsBuilderF 43 5 w1.heap.size w1.heap.size (Lib.byteCells (textI (l.take i) ++ (wordB x.f0).data.toList)) wc) ∧ Aside0 (Below w1.heap.size w1 wc) ∧ Aside0 (wc.heap[wr.heap.size]? = some (.cells #[.int .i64 x.f0, .int .i64 x.f1, .int .i64 x.f2] 38 (0, 0))))
        case first =>
          go_region_with (first
              | (go_at_call 19; refine (impl_insWords.calls words11 _ words11_is).mono ?_; rintro e w2 ⟨v0, rfl, hR, hb⟩; replace hb := (below_step (below_drew1 (Below.refl _ _)) hb : Below (wr.alloc (.cells #[.int .i64 x.f0, .int .i64 x.f1, .int .i64 x.f2] 38)).heap.size (wr.alloc (.cells #[.int .i64 x.f0, .int .i64 x.f1, .int .i64 x.f2] 38)) w2); have hc2 := cell_b hc0 hb; obtain ⟨D0, d0, rfl⟩ := Kd.R_slice hR; obtain ⟨adw, eD, hword⟩ := Kd.at_string (Kd.R_reads' hR).2.2 x.f0 hcan.1 hcan.2.1; cases eD; have HB2 := Aside0.mk hb; clear hb hR)
              | (go_at_call 18; refine (bl_ws w1.heap.size w1.heap.size _ (wordB x.f0) _ (isb_below (isb_alloc I.out _) HB2.out) (by have := LEN.out; have := WS.out; omega) (below_size (below_step (below_alloc B.out _) HB2.out))).mono ?_; rintro e w3 ⟨rfl, i3, bb3, k3⟩; have I3 := Aside0.mk i3; have B3 := Aside0.mk ((below_step (below_alloc B.out _) HB2.out).trans bb3); have BX3 := Aside0.mk (ok_blk k3 (blk_below BX.out HB2.out) (by decide) NE.out); clear i3 bb3 k3 hword))
          all_goals (go_wp2_with fail; go_meet; exact ⟨I3, B3, BX3⟩)
        case rest =>
          obtain ⟨I3, B3, BX3⟩ := hcut
          clear BX hc0 hx0 hx1 hx2 I B
          have HN := Aside0.mk (hasN_is x.f0)
          have HJ := Aside0.mk (jumps_is x.f0)
          have LINE := Aside0.mk (textI_take l i hi)
          rw [← XE.out] at LINE
          have S1 := Aside0.mk (spaced_size x.f1 hcan.2.2.1 hcan.2.2.2.1)
          have S2 := Aside0.mk (spaced_size x.f2 hcan.2.2.2.2.1 hcan.2.2.2.2.2)
          have hz1 : (⟨#[32]⟩ : ByteArray).size + (itoaB x.f1).size ≤ 9223372036854775807 := by have := S1.out; unfold spaced at this; rw [ByteArray.size_append] at this; omega
          have hz2 : (⟨#[32]⟩ : ByteArray).size + (itoaB x.f2).size ≤ 9223372036854775807 := by have := S2.out; unfold spaced at this; rw [ByteArray.size_append] at this; omega
          have HT3 := Aside0.mk (HT1.out.on (B3.out.mono (below_size HB.out)))
          clear hop hop2 hcan
          cases hN : hasNB x.f0 with
          | false =>
            have EN := Aside0.mk hN
            clear hN
            cases hJ : jumpsB x.f0 with
            | false =>
              have EJ := Aside0.mk hJ
              clear hJ
              have hc3_0 : wc.cell? ⟨wr.heap.size, 0, none⟩ = some (.int .i64 x.f0) := (blk_cell BX3.out 0).trans rfl
              have hc3_1 : wc.cell? ⟨wr.heap.size, 1, none⟩ = some (.int .i64 x.f1) := (blk_cell BX3.out 1).trans rfl
              have hc3_2 : wc.cell? ⟨wr.heap.size, 2, none⟩ = some (.int .i64 x.f2) := (blk_cell BX3.out 2).trans rfl
              go_wp2_with fail
              refine (impl_hasN.calls x.f0 false _ (HN.out.trans (congrArg some EN.out))).mono ?_
              rintro e w4 ⟨rfl, hd⟩
              obtain ⟨nd4, rfl⟩ := hd.out
              clear hd
              have I4 := Aside0.mk (isb_drewN I3.out nd4)
              have B4 := Aside0.mk (pw_below_drewN B3.out nd4)
              have BX4 := Aside0.mk (show (wc.drewN nd4).heap[wr.heap.size]? = some (.cells #[.int .i64 x.f0, .int .i64 x.f1, .int .i64 x.f2] 38 (0, 0)) from BX3.out)
              have HT4 := Aside0.mk (HT3.out.on (pw_below_drewN (Below.refl _ _) nd4))
              obtain ⟨w4, hw4⟩ : ∃ v, v = (wc.drewN nd4) := ⟨_, rfl⟩
              rw [← hw4] at I4 B4 BX4 HT4
              (try rw [← hw4])
              clear hw4
              clear hc3_0
              clear hc3_1
              clear hc3_2
              clear I3 B3 BX3 HT3
              have hc4_0 : w4.cell? ⟨wr.heap.size, 0, none⟩ = some (.int .i64 x.f0) := (blk_cell BX4.out 0).trans rfl
              have hc4_1 : w4.cell? ⟨wr.heap.size, 1, none⟩ = some (.int .i64 x.f1) := (blk_cell BX4.out 1).trans rfl
              have hc4_2 : w4.cell? ⟨wr.heap.size, 2, none⟩ = some (.int .i64 x.f2) := (blk_cell BX4.out 2).trans rfl
              go_wp2_with fail
              refine (impl_jumps.calls x.f0 false _ (HJ.out.trans (congrArg some EJ.out))).mono ?_
              rintro e w5 ⟨rfl, hd⟩
              obtain ⟨nd5, rfl⟩ := hd.out
              clear hd
              have I5 := Aside0.mk (isb_drewN I4.out nd5)
              have B5 := Aside0.mk (pw_below_drewN B4.out nd5)
              have BX5 := Aside0.mk (show (w4.drewN nd5).heap[wr.heap.size]? = some (.cells #[.int .i64 x.f0, .int .i64 x.f1, .int .i64 x.f2] 38 (0, 0)) from BX4.out)
              have HT5 := Aside0.mk (HT4.out.on (pw_below_drewN (Below.refl _ _) nd5))
              obtain ⟨w5, hw5⟩ : ∃ v, v = (w4.drewN nd5) := ⟨_, rfl⟩
              rw [← hw5] at I5 B5 BX5 HT5
              (try rw [← hw5])
              clear hw5
              clear hc4_0
              clear hc4_1
              clear hc4_2
              clear I4 B4 BX4 HT4
              have hc5_0 : w5.cell? ⟨wr.heap.size, 0, none⟩ = some (.int .i64 x.f0) := (blk_cell BX5.out 0).trans rfl
              have hc5_1 : w5.cell? ⟨wr.heap.size, 1, none⟩ = some (.int .i64 x.f1) := (blk_cell BX5.out 1).trans rfl
              have hc5_2 : w5.cell? ⟨wr.heap.size, 2, none⟩ = some (.int .i64 x.f2) := (blk_cell BX5.out 2).trans rfl
              go_wp2_with fail
              refine (bl_wb w1.heap.size w1.heap.size _ 10 10 rfl _ I5.out (by have := LEN.out; have := WS.out; have := S1.out; have := S2.out; have e0 : (wordB x.f0).data.toList.length = (wordB x.f0).size := rfl; have e1 : (spaced x.f1).data.toList.length = (spaced x.f1).size := rfl; have e2 : (spaced x.f2).data.toList.length = (spaced x.f2).size := rfl; simp only [List.length_append]; omega) (below_size B5.out)).mono ?_
              rintro e w6 ⟨rfl, i6, bb6, k6⟩
              have I6 := Aside0.mk i6
              have B6 := Aside0.mk (B5.out.trans bb6)
              clear hc5_0
              clear hc5_1
              clear hc5_2
              clear i6 bb6 k6
              go_wp2_with fail
              go_roundg k1
              case measure => have := HK.out; omega
              case rel =>
                refine ⟨i + 1, by go_num, ⟨by have := HK.out; omega⟩, ⟨?_⟩, B6⟩
                rw [LINE.out]
                have e := I6.out
                simp only [lineI, EN.out, EJ.out, if_true, Bool.false_eq_true, if_false, List.append_nil, List.append_assoc] at e ⊢
                exact e
            | true =>
              have EJ := Aside0.mk hJ
              clear hJ
              have hc3_0 : wc.cell? ⟨wr.heap.size, 0, none⟩ = some (.int .i64 x.f0) := (blk_cell BX3.out 0).trans rfl
              have hc3_1 : wc.cell? ⟨wr.heap.size, 1, none⟩ = some (.int .i64 x.f1) := (blk_cell BX3.out 1).trans rfl
              have hc3_2 : wc.cell? ⟨wr.heap.size, 2, none⟩ = some (.int .i64 x.f2) := (blk_cell BX3.out 2).trans rfl
              go_wp2_with fail
              refine (impl_hasN.calls x.f0 false _ (HN.out.trans (congrArg some EN.out))).mono ?_
              rintro e w4 ⟨rfl, hd⟩
              obtain ⟨nd4, rfl⟩ := hd.out
              clear hd
              have I4 := Aside0.mk (isb_drewN I3.out nd4)
              have B4 := Aside0.mk (pw_below_drewN B3.out nd4)
              have BX4 := Aside0.mk (show (wc.drewN nd4).heap[wr.heap.size]? = some (.cells #[.int .i64 x.f0, .int .i64 x.f1, .int .i64 x.f2] 38 (0, 0)) from BX3.out)
              have HT4 := Aside0.mk (HT3.out.on (pw_below_drewN (Below.refl _ _) nd4))
              obtain ⟨w4, hw4⟩ : ∃ v, v = (wc.drewN nd4) := ⟨_, rfl⟩
              rw [← hw4] at I4 B4 BX4 HT4
              (try rw [← hw4])
              clear hw4
              clear hc3_0
              clear hc3_1
              clear hc3_2
              clear I3 B3 BX3 HT3
              have hc4_0 : w4.cell? ⟨wr.heap.size, 0, none⟩ = some (.int .i64 x.f0) := (blk_cell BX4.out 0).trans rfl
              have hc4_1 : w4.cell? ⟨wr.heap.size, 1, none⟩ = some (.int .i64 x.f1) := (blk_cell BX4.out 1).trans rfl
              have hc4_2 : w4.cell? ⟨wr.heap.size, 2, none⟩ = some (.int .i64 x.f2) := (blk_cell BX4.out 2).trans rfl
              go_wp2_with fail
              refine (impl_jumps.calls x.f0 true _ (HJ.out.trans (congrArg some EJ.out))).mono ?_
              rintro e w5 ⟨rfl, hd⟩
              obtain ⟨nd5, rfl⟩ := hd.out
              clear hd
              have I5 := Aside0.mk (isb_drewN I4.out nd5)
              have B5 := Aside0.mk (pw_below_drewN B4.out nd5)
              have BX5 := Aside0.mk (show (w4.drewN nd5).heap[wr.heap.size]? = some (.cells #[.int .i64 x.f0, .int .i64 x.f1, .int .i64 x.f2] 38 (0, 0)) from BX4.out)
              have HT5 := Aside0.mk (HT4.out.on (pw_below_drewN (Below.refl _ _) nd5))
              obtain ⟨w5, hw5⟩ : ∃ v, v = (w4.drewN nd5) := ⟨_, rfl⟩
              rw [← hw5] at I5 B5 BX5 HT5
              (try rw [← hw5])
              clear hw5
              clear hc4_0
              clear hc4_1
              clear hc4_2
              clear I4 B4 BX4 HT4
              have hc5_0 : w5.cell? ⟨wr.heap.size, 0, none⟩ = some (.int .i64 x.f0) := (blk_cell BX5.out 0).trans rfl
              have hc5_1 : w5.cell? ⟨wr.heap.size, 1, none⟩ = some (.int .i64 x.f1) := (blk_cell BX5.out 1).trans rfl
              have hc5_2 : w5.cell? ⟨wr.heap.size, 2, none⟩ = some (.int .i64 x.f2) := (blk_cell BX5.out 2).trans rfl
              go_wp2_with fail
              refine (impl_itoa.calls x.f2 CAN.out.2.2.2.2.1 CAN.out.2.2.2.2.2 _ HT5.out.here).mono ?_
              rintro e w6 ⟨rfl, hb6⟩
              have I6 := Aside0.mk (isb_below I5.out hb6)
              have B6 := Aside0.mk (below_step B5.out hb6)
              have BX6 := Aside0.mk (blk_below BX5.out hb6)
              have HT6 := Aside0.mk (HT5.out.on (hb6.mono (Nat.le_trans (below_size HB.out) (below_size B5.out))))
              clear hc5_0
              clear hc5_1
              clear hc5_2
              clear I5 B5 BX5 HT5 hb6
              have hc6_0 : w6.cell? ⟨wr.heap.size, 0, none⟩ = some (.int .i64 x.f0) := (blk_cell BX6.out 0).trans rfl
              have hc6_1 : w6.cell? ⟨wr.heap.size, 1, none⟩ = some (.int .i64 x.f1) := (blk_cell BX6.out 1).trans rfl
              have hc6_2 : w6.cell? ⟨wr.heap.size, 2, none⟩ = some (.int .i64 x.f2) := (blk_cell BX6.out 2).trans rfl
              go_wp2_with fail
              refine (bl_ws w1.heap.size w1.heap.size _ (spaced x.f2) _ I6.out (by have := LEN.out; have := WS.out; have := S1.out; have := S2.out; have e0 : (wordB x.f0).data.toList.length = (wordB x.f0).size := rfl; have e1 : (spaced x.f1).data.toList.length = (spaced x.f1).size := rfl; simp only [List.length_append]; omega) (below_size B6.out)).mono ?_
              rintro e w7 ⟨rfl, i7, bb7, k7⟩
              have I7 := Aside0.mk i7
              have B7 := Aside0.mk (B6.out.trans bb7)
              have BX7 := Aside0.mk (ok_blk k7 BX6.out (by decide) NE.out)
              have HT7 := Aside0.mk (HT6.out.on (bb7.mono (below_size HB.out)))
              clear hc6_0
              clear hc6_1
              clear hc6_2
              clear I6 B6 BX6 HT6 i7 bb7 k7
              have hc7_0 : w7.cell? ⟨wr.heap.size, 0, none⟩ = some (.int .i64 x.f0) := (blk_cell BX7.out 0).trans rfl
              have hc7_1 : w7.cell? ⟨wr.heap.size, 1, none⟩ = some (.int .i64 x.f1) := (blk_cell BX7.out 1).trans rfl
              have hc7_2 : w7.cell? ⟨wr.heap.size, 2, none⟩ = some (.int .i64 x.f2) := (blk_cell BX7.out 2).trans rfl
              go_wp2_with fail
              refine (bl_wb w1.heap.size w1.heap.size _ 10 10 rfl _ I7.out (by have := LEN.out; have := WS.out; have := S1.out; have := S2.out; have e0 : (wordB x.f0).data.toList.length = (wordB x.f0).size := rfl; have e1 : (spaced x.f1).data.toList.length = (spaced x.f1).size := rfl; have e2 : (spaced x.f2).data.toList.length = (spaced x.f2).size := rfl; simp only [List.length_append]; omega) (below_size B7.out)).mono ?_
              rintro e w8 ⟨rfl, i8, bb8, k8⟩
              have I8 := Aside0.mk i8
              have B8 := Aside0.mk (B7.out.trans bb8)
              clear hc7_0
              clear hc7_1
              clear hc7_2
              clear i8 bb8 k8
              go_wp2_with fail
              go_roundg k1
              case measure => have := HK.out; omega
              case rel =>
                refine ⟨i + 1, by go_num, ⟨by have := HK.out; omega⟩, ⟨?_⟩, B8⟩
                rw [LINE.out]
                have e := I8.out
                simp only [lineI, EN.out, EJ.out, if_true, Bool.false_eq_true, if_false, List.append_nil, List.append_assoc] at e ⊢
                exact e
          | true =>
            have EN := Aside0.mk hN
            clear hN
            cases hJ : jumpsB x.f0 with
            | false =>
              have EJ := Aside0.mk hJ
              clear hJ
              have hc3_0 : wc.cell? ⟨wr.heap.size, 0, none⟩ = some (.int .i64 x.f0) := (blk_cell BX3.out 0).trans rfl
              have hc3_1 : wc.cell? ⟨wr.heap.size, 1, none⟩ = some (.int .i64 x.f1) := (blk_cell BX3.out 1).trans rfl
              have hc3_2 : wc.cell? ⟨wr.heap.size, 2, none⟩ = some (.int .i64 x.f2) := (blk_cell BX3.out 2).trans rfl
              go_wp2_with fail
              refine (impl_hasN.calls x.f0 true _ (HN.out.trans (congrArg some EN.out))).mono ?_
              rintro e w4 ⟨rfl, hd⟩
              obtain ⟨nd4, rfl⟩ := hd.out
              clear hd
              have I4 := Aside0.mk (isb_drewN I3.out nd4)
              have B4 := Aside0.mk (pw_below_drewN B3.out nd4)
              have BX4 := Aside0.mk (show (wc.drewN nd4).heap[wr.heap.size]? = some (.cells #[.int .i64 x.f0, .int .i64 x.f1, .int .i64 x.f2] 38 (0, 0)) from BX3.out)
              have HT4 := Aside0.mk (HT3.out.on (pw_below_drewN (Below.refl _ _) nd4))
              obtain ⟨w4, hw4⟩ : ∃ v, v = (wc.drewN nd4) := ⟨_, rfl⟩
              rw [← hw4] at I4 B4 BX4 HT4
              (try rw [← hw4])
              clear hw4
              clear hc3_0
              clear hc3_1
              clear hc3_2
              clear I3 B3 BX3 HT3
              have hc4_0 : w4.cell? ⟨wr.heap.size, 0, none⟩ = some (.int .i64 x.f0) := (blk_cell BX4.out 0).trans rfl
              have hc4_1 : w4.cell? ⟨wr.heap.size, 1, none⟩ = some (.int .i64 x.f1) := (blk_cell BX4.out 1).trans rfl
              have hc4_2 : w4.cell? ⟨wr.heap.size, 2, none⟩ = some (.int .i64 x.f2) := (blk_cell BX4.out 2).trans rfl
              go_wp2_with fail
              refine (impl_itoa.calls x.f1 CAN.out.2.2.1 CAN.out.2.2.2.1 _ HT4.out.here).mono ?_
              rintro e w5 ⟨rfl, hb5⟩
              have I5 := Aside0.mk (isb_below I4.out hb5)
              have B5 := Aside0.mk (below_step B4.out hb5)
              have BX5 := Aside0.mk (blk_below BX4.out hb5)
              have HT5 := Aside0.mk (HT4.out.on (hb5.mono (Nat.le_trans (below_size HB.out) (below_size B4.out))))
              clear hc4_0
              clear hc4_1
              clear hc4_2
              clear I4 B4 BX4 HT4 hb5
              have hc5_0 : w5.cell? ⟨wr.heap.size, 0, none⟩ = some (.int .i64 x.f0) := (blk_cell BX5.out 0).trans rfl
              have hc5_1 : w5.cell? ⟨wr.heap.size, 1, none⟩ = some (.int .i64 x.f1) := (blk_cell BX5.out 1).trans rfl
              have hc5_2 : w5.cell? ⟨wr.heap.size, 2, none⟩ = some (.int .i64 x.f2) := (blk_cell BX5.out 2).trans rfl
              go_wp2_with fail
              refine (bl_ws w1.heap.size w1.heap.size _ (spaced x.f1) _ I5.out (by have := LEN.out; have := WS.out; have := S1.out; have := S2.out; have e0 : (wordB x.f0).data.toList.length = (wordB x.f0).size := rfl; have e1 : (spaced x.f1).data.toList.length = (spaced x.f1).size := rfl; simp only [List.length_append]; omega) (below_size B5.out)).mono ?_
              rintro e w6 ⟨rfl, i6, bb6, k6⟩
              have I6 := Aside0.mk i6
              have B6 := Aside0.mk (B5.out.trans bb6)
              have BX6 := Aside0.mk (ok_blk k6 BX5.out (by decide) NE.out)
              have HT6 := Aside0.mk (HT5.out.on (bb6.mono (below_size HB.out)))
              clear hc5_0
              clear hc5_1
              clear hc5_2
              clear I5 B5 BX5 HT5 i6 bb6 k6
              have hc6_0 : w6.cell? ⟨wr.heap.size, 0, none⟩ = some (.int .i64 x.f0) := (blk_cell BX6.out 0).trans rfl
              have hc6_1 : w6.cell? ⟨wr.heap.size, 1, none⟩ = some (.int .i64 x.f1) := (blk_cell BX6.out 1).trans rfl
              have hc6_2 : w6.cell? ⟨wr.heap.size, 2, none⟩ = some (.int .i64 x.f2) := (blk_cell BX6.out 2).trans rfl
              go_wp2_with fail
              refine (impl_jumps.calls x.f0 false _ (HJ.out.trans (congrArg some EJ.out))).mono ?_
              rintro e w7 ⟨rfl, hd⟩
              obtain ⟨nd7, rfl⟩ := hd.out
              clear hd
              have I7 := Aside0.mk (isb_drewN I6.out nd7)
              have B7 := Aside0.mk (pw_below_drewN B6.out nd7)
              have BX7 := Aside0.mk (show (w6.drewN nd7).heap[wr.heap.size]? = some (.cells #[.int .i64 x.f0, .int .i64 x.f1, .int .i64 x.f2] 38 (0, 0)) from BX6.out)
              have HT7 := Aside0.mk (HT6.out.on (pw_below_drewN (Below.refl _ _) nd7))
              obtain ⟨w7, hw7⟩ : ∃ v, v = (w6.drewN nd7) := ⟨_, rfl⟩
              rw [← hw7] at I7 B7 BX7 HT7
              (try rw [← hw7])
              clear hw7
              clear hc6_0
              clear hc6_1
              clear hc6_2
              clear I6 B6 BX6 HT6
              have hc7_0 : w7.cell? ⟨wr.heap.size, 0, none⟩ = some (.int .i64 x.f0) := (blk_cell BX7.out 0).trans rfl
              have hc7_1 : w7.cell? ⟨wr.heap.size, 1, none⟩ = some (.int .i64 x.f1) := (blk_cell BX7.out 1).trans rfl
              have hc7_2 : w7.cell? ⟨wr.heap.size, 2, none⟩ = some (.int .i64 x.f2) := (blk_cell BX7.out 2).trans rfl
              go_wp2_with fail
              refine (bl_wb w1.heap.size w1.heap.size _ 10 10 rfl _ I7.out (by have := LEN.out; have := WS.out; have := S1.out; have := S2.out; have e0 : (wordB x.f0).data.toList.length = (wordB x.f0).size := rfl; have e1 : (spaced x.f1).data.toList.length = (spaced x.f1).size := rfl; have e2 : (spaced x.f2).data.toList.length = (spaced x.f2).size := rfl; simp only [List.length_append]; omega) (below_size B7.out)).mono ?_
              rintro e w8 ⟨rfl, i8, bb8, k8⟩
              have I8 := Aside0.mk i8
              have B8 := Aside0.mk (B7.out.trans bb8)
              clear hc7_0
              clear hc7_1
              clear hc7_2
              clear i8 bb8 k8
              go_wp2_with fail
              go_roundg k1
              case measure => have := HK.out; omega
              case rel =>
                refine ⟨i + 1, by go_num, ⟨by have := HK.out; omega⟩, ⟨?_⟩, B8⟩
                rw [LINE.out]
                have e := I8.out
                simp only [lineI, EN.out, EJ.out, if_true, Bool.false_eq_true, if_false, List.append_nil, List.append_assoc] at e ⊢
                exact e
            | true =>
              have EJ := Aside0.mk hJ
              clear hJ
              have hc3_0 : wc.cell? ⟨wr.heap.size, 0, none⟩ = some (.int .i64 x.f0) := (blk_cell BX3.out 0).trans rfl
              have hc3_1 : wc.cell? ⟨wr.heap.size, 1, none⟩ = some (.int .i64 x.f1) := (blk_cell BX3.out 1).trans rfl
              have hc3_2 : wc.cell? ⟨wr.heap.size, 2, none⟩ = some (.int .i64 x.f2) := (blk_cell BX3.out 2).trans rfl
              go_wp2_with fail
              refine (impl_hasN.calls x.f0 true _ (HN.out.trans (congrArg some EN.out))).mono ?_
              rintro e w4 ⟨rfl, hd⟩
              obtain ⟨nd4, rfl⟩ := hd.out
              clear hd
              have I4 := Aside0.mk (isb_drewN I3.out nd4)
              have B4 := Aside0.mk (pw_below_drewN B3.out nd4)
              have BX4 := Aside0.mk (show (wc.drewN nd4).heap[wr.heap.size]? = some (.cells #[.int .i64 x.f0, .int .i64 x.f1, .int .i64 x.f2] 38 (0, 0)) from BX3.out)
              have HT4 := Aside0.mk (HT3.out.on (pw_below_drewN (Below.refl _ _) nd4))
              obtain ⟨w4, hw4⟩ : ∃ v, v = (wc.drewN nd4) := ⟨_, rfl⟩
              rw [← hw4] at I4 B4 BX4 HT4
              (try rw [← hw4])
              clear hw4
              clear hc3_0
              clear hc3_1
              clear hc3_2
              clear I3 B3 BX3 HT3
              have hc4_0 : w4.cell? ⟨wr.heap.size, 0, none⟩ = some (.int .i64 x.f0) := (blk_cell BX4.out 0).trans rfl
              have hc4_1 : w4.cell? ⟨wr.heap.size, 1, none⟩ = some (.int .i64 x.f1) := (blk_cell BX4.out 1).trans rfl
              have hc4_2 : w4.cell? ⟨wr.heap.size, 2, none⟩ = some (.int .i64 x.f2) := (blk_cell BX4.out 2).trans rfl
              go_wp2_with fail
              refine (impl_itoa.calls x.f1 CAN.out.2.2.1 CAN.out.2.2.2.1 _ HT4.out.here).mono ?_
              rintro e w5 ⟨rfl, hb5⟩
              have I5 := Aside0.mk (isb_below I4.out hb5)
              have B5 := Aside0.mk (below_step B4.out hb5)
              have BX5 := Aside0.mk (blk_below BX4.out hb5)
              have HT5 := Aside0.mk (HT4.out.on (hb5.mono (Nat.le_trans (below_size HB.out) (below_size B4.out))))
              clear hc4_0
              clear hc4_1
              clear hc4_2
              clear I4 B4 BX4 HT4 hb5
              have hc5_0 : w5.cell? ⟨wr.heap.size, 0, none⟩ = some (.int .i64 x.f0) := (blk_cell BX5.out 0).trans rfl
              have hc5_1 : w5.cell? ⟨wr.heap.size, 1, none⟩ = some (.int .i64 x.f1) := (blk_cell BX5.out 1).trans rfl
              have hc5_2 : w5.cell? ⟨wr.heap.size, 2, none⟩ = some (.int .i64 x.f2) := (blk_cell BX5.out 2).trans rfl
              go_wp2_with fail
              refine (bl_ws w1.heap.size w1.heap.size _ (spaced x.f1) _ I5.out (by have := LEN.out; have := WS.out; have := S1.out; have := S2.out; have e0 : (wordB x.f0).data.toList.length = (wordB x.f0).size := rfl; have e1 : (spaced x.f1).data.toList.length = (spaced x.f1).size := rfl; simp only [List.length_append]; omega) (below_size B5.out)).mono ?_
              rintro e w6 ⟨rfl, i6, bb6, k6⟩
              have I6 := Aside0.mk i6
              have B6 := Aside0.mk (B5.out.trans bb6)
              have BX6 := Aside0.mk (ok_blk k6 BX5.out (by decide) NE.out)
              have HT6 := Aside0.mk (HT5.out.on (bb6.mono (below_size HB.out)))
              clear hc5_0
              clear hc5_1
              clear hc5_2
              clear I5 B5 BX5 HT5 i6 bb6 k6
              have hc6_0 : w6.cell? ⟨wr.heap.size, 0, none⟩ = some (.int .i64 x.f0) := (blk_cell BX6.out 0).trans rfl
              have hc6_1 : w6.cell? ⟨wr.heap.size, 1, none⟩ = some (.int .i64 x.f1) := (blk_cell BX6.out 1).trans rfl
              have hc6_2 : w6.cell? ⟨wr.heap.size, 2, none⟩ = some (.int .i64 x.f2) := (blk_cell BX6.out 2).trans rfl
              go_wp2_with fail
              refine (impl_jumps.calls x.f0 true _ (HJ.out.trans (congrArg some EJ.out))).mono ?_
              rintro e w7 ⟨rfl, hd⟩
              obtain ⟨nd7, rfl⟩ := hd.out
              clear hd
              have I7 := Aside0.mk (isb_drewN I6.out nd7)
              have B7 := Aside0.mk (pw_below_drewN B6.out nd7)
              have BX7 := Aside0.mk (show (w6.drewN nd7).heap[wr.heap.size]? = some (.cells #[.int .i64 x.f0, .int .i64 x.f1, .int .i64 x.f2] 38 (0, 0)) from BX6.out)
              have HT7 := Aside0.mk (HT6.out.on (pw_below_drewN (Below.refl _ _) nd7))
              obtain ⟨w7, hw7⟩ : ∃ v, v = (w6.drewN nd7) := ⟨_, rfl⟩
              rw [← hw7] at I7 B7 BX7 HT7
              (try rw [← hw7])
              clear hw7
              clear hc6_0
              clear hc6_1
              clear hc6_2
              clear I6 B6 BX6 HT6
              have hc7_0 : w7.cell? ⟨wr.heap.size, 0, none⟩ = some (.int .i64 x.f0) := (blk_cell BX7.out 0).trans rfl
              have hc7_1 : w7.cell? ⟨wr.heap.size, 1, none⟩ = some (.int .i64 x.f1) := (blk_cell BX7.out 1).trans rfl
              have hc7_2 : w7.cell? ⟨wr.heap.size, 2, none⟩ = some (.int .i64 x.f2) := (blk_cell BX7.out 2).trans rfl
              go_wp2_with fail
              refine (impl_itoa.calls x.f2 CAN.out.2.2.2.2.1 CAN.out.2.2.2.2.2 _ HT7.out.here).mono ?_
              rintro e w8 ⟨rfl, hb8⟩
              have I8 := Aside0.mk (isb_below I7.out hb8)
              have B8 := Aside0.mk (below_step B7.out hb8)
              have BX8 := Aside0.mk (blk_below BX7.out hb8)
              have HT8 := Aside0.mk (HT7.out.on (hb8.mono (Nat.le_trans (below_size HB.out) (below_size B7.out))))
              clear hc7_0
              clear hc7_1
              clear hc7_2
              clear I7 B7 BX7 HT7 hb8
              have hc8_0 : w8.cell? ⟨wr.heap.size, 0, none⟩ = some (.int .i64 x.f0) := (blk_cell BX8.out 0).trans rfl
              have hc8_1 : w8.cell? ⟨wr.heap.size, 1, none⟩ = some (.int .i64 x.f1) := (blk_cell BX8.out 1).trans rfl
              have hc8_2 : w8.cell? ⟨wr.heap.size, 2, none⟩ = some (.int .i64 x.f2) := (blk_cell BX8.out 2).trans rfl
              go_wp2_with fail
              refine (bl_ws w1.heap.size w1.heap.size _ (spaced x.f2) _ I8.out (by have := LEN.out; have := WS.out; have := S1.out; have := S2.out; have e0 : (wordB x.f0).data.toList.length = (wordB x.f0).size := rfl; have e1 : (spaced x.f1).data.toList.length = (spaced x.f1).size := rfl; simp only [List.length_append]; omega) (below_size B8.out)).mono ?_
              rintro e w9 ⟨rfl, i9, bb9, k9⟩
              have I9 := Aside0.mk i9
              have B9 := Aside0.mk (B8.out.trans bb9)
              have BX9 := Aside0.mk (ok_blk k9 BX8.out (by decide) NE.out)
              have HT9 := Aside0.mk (HT8.out.on (bb9.mono (below_size HB.out)))
              clear hc8_0
              clear hc8_1
              clear hc8_2
              clear I8 B8 BX8 HT8 i9 bb9 k9
              have hc9_0 : w9.cell? ⟨wr.heap.size, 0, none⟩ = some (.int .i64 x.f0) := (blk_cell BX9.out 0).trans rfl
              have hc9_1 : w9.cell? ⟨wr.heap.size, 1, none⟩ = some (.int .i64 x.f1) := (blk_cell BX9.out 1).trans rfl
              have hc9_2 : w9.cell? ⟨wr.heap.size, 2, none⟩ = some (.int .i64 x.f2) := (blk_cell BX9.out 2).trans rfl
              go_wp2_with fail
              refine (bl_wb w1.heap.size w1.heap.size _ 10 10 rfl _ I9.out (by have := LEN.out; have := WS.out; have := S1.out; have := S2.out; have e0 : (wordB x.f0).data.toList.length = (wordB x.f0).size := rfl; have e1 : (spaced x.f1).data.toList.length = (spaced x.f1).size := rfl; have e2 : (spaced x.f2).data.toList.length = (spaced x.f2).size := rfl; simp only [List.length_append]; omega) (below_size B9.out)).mono ?_
              rintro e w10 ⟨rfl, i10, bb10, k10⟩
              have I10 := Aside0.mk i10
              have B10 := Aside0.mk (B9.out.trans bb10)
              clear hc9_0
              clear hc9_1
              clear hc9_2
              clear i10 bb10 k10
              go_wp2_with fail
              go_roundg k1
              case measure => have := HK.out; omega
              case rel =>
                refine ⟨i + 1, by go_num, ⟨by have := HK.out; omega⟩, ⟨?_⟩, B10⟩
                rw [LINE.out]
                have e := I10.out
                simp only [lineI, EN.out, EJ.out, if_true, Bool.false_eq_true, if_false, List.append_nil, List.append_assoc] at e ⊢
                exact e
    · have hit : l.take i = l := List.take_of_length_le (by omega)
      rw [hit] at I
      have hq : decide (i < l.length) = false := decide_eq_false hi
      have hlb : (Lib.byteCells (textI l)).length = (textI l).length := by simp [Lib.byteCells]
      have LB := Aside0.mk hlb
      clear hit hlb hi
      by_cases hbig : (textI l).length > 400000
      · have hd : decide ((400000 : Int) < ((textI l).length : Int)) = true := decide_eq_true (by omega)
        have fin : showR l = (⟨#[]⟩, 3) := if_pos hbig
        have FIN := Aside0.mk fin
        clear fin hbig
        go_wp2_with fail
        refine (Tryd.Builder_Len_f w1.heap.size w1.heap.size _ _ I.out).mono ?_
        rintro e w2 ⟨rfl, rfl⟩
        rw [LB.out]
        go_wp2_with fail
        go_ret2
        rw [FIN.out]
        exact ⟨rfl, below_step HB.out B.out⟩
      · have hd : decide ((400000 : Int) < ((textI l).length : Int)) = false := decide_eq_false (by omega)
        have fin : showR l = (⟨(textI l).toArray⟩, 0) := if_neg hbig
        have FIN := Aside0.mk fin
        clear fin hbig
        go_wp2_with fail
        refine (Tryd.Builder_Len_f w1.heap.size w1.heap.size _ _ I.out).mono ?_
        rintro e w2 ⟨rfl, rfl⟩
        rw [LB.out]
        go_wp2_with fail
        refine (bl_string w1.heap.size w1.heap.size (textI l) _ I.out (below_size B.out)).mono ?_
        rintro e w3 ⟨rfl, i3, bb3, k3⟩
        have B3 := Aside0.mk (B.out.trans bb3)
        clear i3 bb3 k3
        go_wp2_with fail
        go_ret2
        rw [FIN.out]
        exact ⟨rfl, below_step HB.out B3.out⟩
set_option maxHeartbeats 1000000 in
set_option maxRecDepth 100000 in
theorem impl_ProgramShow.no (l : List S38) (A : Option Addr) (c : Nat) (w : World) (hr : Kd.C k38 w A l.length l) (hc : l.length ≤ c) (k : Nat) (hok : impl_ProgramOK.f k l = some false) :
    Calls Tryd.prog 8 #[.slice A l.length c] w fun e w' => e = .returned (.tuple #[.string ⟨#[]⟩, .int .i64 1]) ∧ Below w.heap.size w w' := by
  have HR := Aside0.mk hr
  have HC := Aside0.mk hc
  have OK := Aside0.mk hok
  clear hr hc hok
  go_enter Tryd.func8, Tryd.ntmps8
  go_wp2_with (go_at_call 17; refine (impl_ProgramOK.calls k A c l false w HR.out HC.out OK.out).mono ?_; rintro e w1 ⟨rfl, hb⟩; have HB := Aside0.mk hb; clear hb)
  go_ret2
  exact ⟨rfl, HB.out⟩

end Go.Proofs.YtakpkmkjhndpjaaDoor.Q
