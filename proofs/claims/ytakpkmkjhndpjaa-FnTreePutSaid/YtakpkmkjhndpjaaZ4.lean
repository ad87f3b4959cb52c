/- Texts of one claim laid one behind the other: plain functions that answer as the program's functions do, and the proofs that they do. No condition of its own. -/
import Derived.Test.YtakpkmkjhndpjaaZ3
import Derived.Shelf.Strings.BuilderK
section
namespace Go.Proofs.Ytakpkmkjhndpjaa.Q
open Go.RowKit Go.Proofs.YtakpkmkjhndpjaaW.PrintWords Go.Proofs.YtakpkmkjhndpjaaW.PrintLast Go.Proofs.YtakpkmkjhndpjaaW.PrintMore
attribute [local go_sem] max2_int min2_int max_two min_two max_three min_three max_four min_four
set_option linter.unusedVariables false
set_option linter.unusedSimpArgs false
mutual
def laws_sameTree.j0:Nat→Bool→ByteArray→ByteArray→Bool→List (S26)→ByteArray→ByteArray→Bool→List (S26)→Option (Bool)
 |0,_,_,_,_,_,_,_,_,_=>none
 |k + 1,x33,x472000,x472001,x472002,x472003,x473000,x473001,x473002,x473003=>if x33=true then (some false) else (laws_sameTree.l0 k 0 x472000 x472001 x472002 x472003 x473000 x473001 x473002 x473003)
def laws_sameTree.l0:Nat→Int→ByteArray→ByteArray→Bool→List (S26)→ByteArray→ByteArray→Bool→List (S26)→Option (Bool)
 |0,_,_,_,_,_,_,_,_,_=>none
 |k + 1,x5,x472000,x472001,x472002,x472003,x473000,x473001,x473002,x473003=>if x5 < (x472003.length:Int) then (if 0≤x5 then (if x5 < (x473003.length:Int) then ((laws_sameTree.f k ((rd_T26 x472003 x5).f0) ((rd_T26 x472003 x5).f1) ((rd_T26 x472003 x5).f2) ((rd_T26 x472003 x5).f3) ((rd_T26 x473003 x5).f0) ((rd_T26 x473003 x5).f1) ((rd_T26 x473003 x5).f2) ((rd_T26 x473003 x5).f3)).bind fun t475=>(if t475=true then (laws_sameTree.l0 k (wrap64 (x5 + 1)) x472000 x472001 x472002 x472003 x473000 x473001 x473002 x473003) else (some false))) else (none)) else (none)) else (some true)
def laws_sameTree.f:Nat→ByteArray→ByteArray→Bool→List (S26)→ByteArray→ByteArray→Bool→List (S26)→Option (Bool)
 |0,_,_,_,_,_,_,_,_=>none
 |k + 1,a0_0,a0_1,a0_2,l0_3,a1_0,a1_1,a1_2,l1_3=>if a0_0.toList=a1_0.toList then (if a0_1.toList=a1_1.toList then (if (a0_2 != a1_2)=true then (laws_sameTree.j0 k true a0_0 a0_1 a0_2 l0_3 a1_0 a1_1 a1_2 l1_3) else (laws_sameTree.j0 k ((l0_3.length:Int) != (l1_3.length:Int)) a0_0 a0_1 a0_2 l0_3 a1_0 a1_1 a1_2 l1_3)) else (laws_sameTree.j0 k true a0_0 a0_1 a0_2 l0_3 a1_0 a1_1 a1_2 l1_3)) else (laws_sameTree.j0 k true a0_0 a0_1 a0_2 l0_3 a1_0 a1_1 a1_2 l1_3)
end
def laws_sameTree.T6:Bool × List (List Nat × List Nat):=(true, [([], []),([0], [0]),([], []),([1,2], [1,2]),([3], [3]),([], []),([5], [5]),([], []),([6,7], [6,7]),([8], [8]),([4,9], [4,9]),([10], [10])])
def laws_sameTree.B6:List Nat:= [0,1,0,7,15,0,32,0,224,480,1023,2047]
theorem laws_sameTree.tab6:rtab .any (opsOf Try.f12 6)=laws_sameTree.T6:=by kernel_rfl
theorem laws_sameTree.bits6:waitsOk laws_sameTree.T6.2 laws_sameTree.B6=true:=by kernel_rfl
set_option maxHeartbeats 8000000 in
set_option maxRecDepth 100000 in
theorem laws_sameTree.calls (k:Nat): ∀ (a0_0:ByteArray) (a0_1:ByteArray) (a0_2:Bool) (A0_3:Option Addr) (c0_3:Nat) (l0_3:List (S26)) (a1_0:ByteArray) (a1_1:ByteArray) (a1_2:Bool) (A1_3:Option Addr) (c1_3:Nat) (l1_3:List (S26)) (r:Bool) (w:World) (hr0_3:Kd.C k26 w A0_3 l0_3.length l0_3) (hc0_3:l0_3.length≤c0_3) (hr1_3:Kd.C k26 w A1_3 l1_3.length l1_3) (hc1_3:l1_3.length≤c1_3) (h:laws_sameTree.f k a0_0 a0_1 a0_2 l0_3 a1_0 a1_1 a1_2 l1_3=some r),
  Calls Try.prog 12 #[.agg #[.string a0_0, .string a0_1, .bool a0_2, .slice A0_3 l0_3.length c0_3], .agg #[.string a1_0, .string a1_1, .bool a1_2, .slice A1_3 l1_3.length c1_3]] w fun e w'=>e= .returned (.bool r)∧Below w.heap.size w w':=by
 induction k using Nat.strongRecOn with
 |_ k ih=>
 intro a0_0 a0_1 a0_2 A0_3 c0_3 l0_3 a1_0 a1_1 a1_2 A1_3 c1_3 l1_3 r w hr0_3 hc0_3 hr1_3 hc1_3 h
 cases k with
 |zero=>exact absurd h (by simp [laws_sameTree.f])
 |succ k=>
 simp only [laws_sameTree.f] at h
 have hu26:=Try.underlying26
 have HR0_3:=A0_ hr0_3
 have HC0_3:=A0_ hc0_3
 clear hr0_3 hc0_3
 have HR1_3:=A0_ hr1_3
 have HC1_3:=A0_ hc1_3
 clear hr1_3 hc1_3
 have HB:=A0_ (Below.refl w.heap.size w)
 have H:(if a0_0.toList=a1_0.toList then (if a0_1.toList=a1_1.toList then (if (a0_2 != a1_2)=true then (laws_sameTree.j0 k true a0_0 a0_1 a0_2 l0_3 a1_0 a1_1 a1_2 l1_3) else (laws_sameTree.j0 k ((l0_3.length:Int) != (l1_3.length:Int)) a0_0 a0_1 a0_2 l0_3 a1_0 a1_1 a1_2 l1_3)) else (laws_sameTree.j0 k true a0_0 a0_1 a0_2 l0_3 a1_0 a1_1 a1_2 l1_3)) else (laws_sameTree.j0 k true a0_0 a0_1 a0_2 l0_3 a1_0 a1_1 a1_2 l1_3))=some r:=h
 clear h
 have HC3:=A0_ H
 clear H
 go_enter Try.func12,Try.ntmps12
 go_upto_region 1 with (first|((with_reducible refine gate_dst (N:=2) rfl ?_);(try (refine gate_guard (by rfl) ?_;dsimp only));refine box_event ?hg (N:=2) ?hd (cs:= #[.string a0_0, .string a0_1, .bool a0_2, .slice A0_3 l0_3.length c0_3]) (t:=26) ?hr ?_;(case hd=>rfl);(case hg=>rfl);(case hr=>first|(go_simp;done)|(go_simp;rfl));intro gb471 hg w4 hbox hb;have BK471:=A0_ (hbox);have GW471:=A0_ ((by rw [hg];exact (below_size HB.out):w.heap.size≤gb471));have GE471:=A0_ ((by rw [hg];exact (below_size HB.out):w.heap.size≤gb471));replace HB:=A0_ (below_step HB.out hb);clear hb hbox hg)|((with_reducible refine gate_dst (N:=3) rfl ?_);(try (refine gate_guard (by rfl) ?_;dsimp only));refine box_event ?hg (N:=3) ?hd (cs:= #[.string a1_0, .string a1_1, .bool a1_2, .slice A1_3 l1_3.length c1_3]) (t:=26) ?hr ?_;(case hd=>rfl);(case hg=>rfl);(case hr=>first|(go_simp;done)|(go_simp;rfl));intro gb472 hg w5 hbox hb;have BK472:=A0_ (hbox);have GW472:=A0_ ((by rw [hg];exact (below_size HB.out):w.heap.size≤gb472));have GE472:=A0_ ((by rw [hg];exact (below_size HB.out):w.heap.size≤gb472));replace HB:=A0_ (below_step HB.out hb);have NB471_472:=A0_ ((by rw [hg];exact Nat.ne_of_lt (blk_lt BK471.out):gb471≠gb472));have NB472_471:=A0_ ((by rw [hg];exact Nat.ne_of_gt (blk_lt BK471.out):gb472≠gb471));replace BK471:=A0_ (blk_below BK471.out hb);clear hb hbox hg))
 (try simp only [Act.put,List.setIfInBounds_toArray,List.set_cons_zero,List.set_cons_succ])
 go_cut [33] (fun v33 wc=> ∃ (kq:Nat) (x33_2:Bool),v33= .bool x33_2∧Aside0 (laws_sameTree.j0 kq x33_2 a0_0 a0_1 a0_2 l0_3 a1_0 a1_1 a1_2 l1_3=some r)∧Aside0 (kq≤k)∧Aside0 (wc.heap[gb471]?= some (.cells #[.string a0_0, .string a0_1, .bool a0_2,(.slice A0_3 l0_3.length c0_3)] 26 (0,0)))∧Aside0 (wc.heap[gb472]?= some (.cells #[.string a1_0, .string a1_1, .bool a1_2,(.slice A1_3 l1_3.length c1_3)] 26 (0,0)))∧Aside0 (Below w.heap.size w wc))
 case first=>
  have H:=HC3.out
  clear HC3
  by_cases c6:a0_0.toList=a1_0.toList
  ·rw [if_pos c6] at H
   have c6b0:(a0_0.toList == a1_0.toList)=true:=beq_iff_eq.mpr c6
   have c6b1:(a0_0.toList != a1_0.toList)=false:=bne_eq_false_iff_eq.mpr c6
   clear c6
   (first|rw [c6b0] |(simp only [i64_w,i32_w];rw [c6b0])|skip)
   by_cases c7:a0_1.toList=a1_1.toList
   ·rw [if_pos c7] at H
    have c7b0:(a0_1.toList == a1_1.toList)=true:=beq_iff_eq.mpr c7
    have c7b1:(a0_1.toList != a1_1.toList)=false:=bne_eq_false_iff_eq.mpr c7
    clear c7
    by_cases c8:(a0_2 != a1_2)=true
    ·rw [if_pos c8] at H
     have c8b0:(a0_2 != a1_2)=true:=c8
     (try (have c8b1:decide (a0_2=a1_2)=false:=by simpa using c8))
     (try (have c8b2:(a0_2 == a1_2)=false:=by simpa using c8))
     (try (have c8b3: ¬ (a0_2=a1_2):=by simpa using c8))
     clear c8
     have H':=A0_ H
     clear H
     have hnb9:=NB471_472.out
     have hnc9:=NB472_471.out
     obtain ⟨hcz10_0,hcz10_1,hcz10_2,hcz10_3⟩:=bc4_ BK471.out
     obtain ⟨hfz10_0,hfz10_1,hfz10_2,hfz10_3⟩:=bf4_ BK471.out
     obtain ⟨hcz11_0,hcz11_1,hcz11_2,hcz11_3⟩:=bc4_ BK472.out
     obtain ⟨hfz11_0,hfz11_1,hfz11_2,hfz11_3⟩:=bf4_ BK472.out
     go_wp2
     go_meet
     case rel=>exact ⟨_,(true),(by first|rfl|(simp;done)|(simp [*];done)|(simp [bne];done)|(simp [bne, *];done)),H',⟨by first|omega|exact Nat.le_refl _⟩,⟨by (with_reducible repeat (first|refine blk_drewN ?_ _|refine blk_drew ?_|refine blk_alloc ?_ _));exact BK471.out⟩,⟨by (with_reducible repeat (first|refine blk_drewN ?_ _|refine blk_drew ?_|refine blk_alloc ?_ _));exact BK472.out⟩,⟨by repeat (first|(with_reducible first|exact HB.out|apply below_alloc|apply pw_below_drewN|apply below_drew1|refine below_set ?_ GE471.out|refine below_set ?_ GE472.out)|exact HB.out)⟩⟩
    ·rw [if_neg c8] at H
     have c8b0:(a0_2 != a1_2)=false:=by simpa using c8
     (try (have c8b1:decide (a0_2=a1_2)=true:=by simpa using c8))
     (try (have c8b2:(a0_2 == a1_2)=true:=by simpa using c8))
     clear c8
     have H':=A0_ H
     clear H
     have hnb12:=NB471_472.out
     have hnc12:=NB472_471.out
     obtain ⟨hcz13_0,hcz13_1,hcz13_2,hcz13_3⟩:=bc4_ BK471.out
     obtain ⟨hfz13_0,hfz13_1,hfz13_2,hfz13_3⟩:=bf4_ BK471.out
     obtain ⟨hcz14_0,hcz14_1,hcz14_2,hcz14_3⟩:=bc4_ BK472.out
     obtain ⟨hfz14_0,hfz14_1,hfz14_2,hfz14_3⟩:=bf4_ BK472.out
     go_wp2
     go_meet
     case rel=>exact ⟨_,(((l0_3.length:Int) != (l1_3.length:Int))),(by first|rfl|(simp;done)|(simp [*];done)|(simp [bne];done)|(simp [bne, *];done)),H',⟨by first|omega|exact Nat.le_refl _⟩,⟨by (with_reducible repeat (first|refine blk_drewN ?_ _|refine blk_drew ?_|refine blk_alloc ?_ _));exact BK471.out⟩,⟨by (with_reducible repeat (first|refine blk_drewN ?_ _|refine blk_drew ?_|refine blk_alloc ?_ _));exact BK472.out⟩,⟨by repeat (first|(with_reducible first|exact HB.out|apply below_alloc|apply pw_below_drewN|apply below_drew1|refine below_set ?_ GE471.out|refine below_set ?_ GE472.out)|exact HB.out)⟩⟩
   ·rw [if_neg c7] at H
    have c7b0:(a0_1.toList == a1_1.toList)=false:=beq_eq_false_iff_ne.mpr c7
    have c7b1:(a0_1.toList != a1_1.toList)=true:=bne_iff_ne.mpr c7
    have H':=A0_ H
    clear H
    have hnb15:=NB471_472.out
    have hnc15:=NB472_471.out
    obtain ⟨hcz16_0,hcz16_1,hcz16_2,hcz16_3⟩:=bc4_ BK471.out
    obtain ⟨hfz16_0,hfz16_1,hfz16_2,hfz16_3⟩:=bf4_ BK471.out
    obtain ⟨hcz17_0,hcz17_1,hcz17_2,hcz17_3⟩:=bc4_ BK472.out
    obtain ⟨hfz17_0,hfz17_1,hfz17_2,hfz17_3⟩:=bf4_ BK472.out
    go_wp2
    go_meet
    case rel=>exact ⟨_,(true),(by first|rfl|(simp;done)|(simp [*];done)|(simp [bne];done)|(simp [bne, *];done)),H',⟨by first|omega|exact Nat.le_refl _⟩,⟨by (with_reducible repeat (first|refine blk_drewN ?_ _|refine blk_drew ?_|refine blk_alloc ?_ _));exact BK471.out⟩,⟨by (with_reducible repeat (first|refine blk_drewN ?_ _|refine blk_drew ?_|refine blk_alloc ?_ _));exact BK472.out⟩,⟨by repeat (first|(with_reducible first|exact HB.out|apply below_alloc|apply pw_below_drewN|apply below_drew1|refine below_set ?_ GE471.out|refine below_set ?_ GE472.out)|exact HB.out)⟩⟩
  ·rw [if_neg c6] at H
   have c6b0:(a0_0.toList == a1_0.toList)=false:=beq_eq_false_iff_ne.mpr c6
   have c6b1:(a0_0.toList != a1_0.toList)=true:=bne_iff_ne.mpr c6
   (first|rw [c6b0] |(simp only [i64_w,i32_w];rw [c6b0])|skip)
   have H':=A0_ H
   clear H
   have hnb18:=NB471_472.out
   have hnc18:=NB472_471.out
   obtain ⟨hcz19_0,hcz19_1,hcz19_2,hcz19_3⟩:=bc4_ BK471.out
   obtain ⟨hfz19_0,hfz19_1,hfz19_2,hfz19_3⟩:=bf4_ BK471.out
   obtain ⟨hcz20_0,hcz20_1,hcz20_2,hcz20_3⟩:=bc4_ BK472.out
   obtain ⟨hfz20_0,hfz20_1,hfz20_2,hfz20_3⟩:=bf4_ BK472.out
   go_wp2
   go_meet
   case rel=>exact ⟨_,(true),(by first|rfl|(simp;done)|(simp [*];done)|(simp [bne];done)|(simp [bne, *];done)),H',⟨by first|omega|exact Nat.le_refl _⟩,⟨by (with_reducible repeat (first|refine blk_drewN ?_ _|refine blk_drew ?_|refine blk_alloc ?_ _));exact BK471.out⟩,⟨by (with_reducible repeat (first|refine blk_drewN ?_ _|refine blk_drew ?_|refine blk_alloc ?_ _));exact BK472.out⟩,⟨by repeat (first|(with_reducible first|exact HB.out|apply below_alloc|apply pw_below_drewN|apply below_drew1|refine below_set ?_ GE471.out|refine below_set ?_ GE472.out)|exact HB.out)⟩⟩
 case rest=>
  clear HC3
  try clear c1
  try clear p2
  try clear c6
  try clear c6b0
  try clear c6b1
  try clear c7
  try clear c7b0
  try clear c7b1
  try clear c8
  try clear c8b0
  try clear c8b1
  try clear c8b2
  try clear c9
  try clear c12
  try clear c15
  try clear c18
  try clear hcz10_0
  try clear hcz10_1
  try clear hcz10_2
  try clear hcz10_3
  try clear hcz11_0
  try clear hcz11_1
  try clear hcz11_2
  try clear hcz11_3
  try clear hcz13_0
  try clear hcz13_1
  try clear hcz13_2
  try clear hcz13_3
  try clear hcz14_0
  try clear hcz14_1
  try clear hcz14_2
  try clear hcz14_3
  try clear hcz16_0
  try clear hcz16_1
  try clear hcz16_2
  try clear hcz16_3
  try clear hcz17_0
  try clear hcz17_1
  try clear hcz17_2
  try clear hcz17_3
  try clear hcz19_0
  try clear hcz19_1
  try clear hcz19_2
  try clear hcz19_3
  try clear hcz20_0
  try clear hcz20_1
  try clear hcz20_2
  try clear hcz20_3
  try clear hfz10_0
  try clear hfz10_1
  try clear hfz10_2
  try clear hfz10_3
  try clear hfz11_0
  try clear hfz11_1
  try clear hfz11_2
  try clear hfz11_3
  try clear hfz13_0
  try clear hfz13_1
  try clear hfz13_2
  try clear hfz13_3
  try clear hfz14_0
  try clear hfz14_1
  try clear hfz14_2
  try clear hfz14_3
  try clear hfz16_0
  try clear hfz16_1
  try clear hfz16_2
  try clear hfz16_3
  try clear hfz17_0
  try clear hfz17_1
  try clear hfz17_2
  try clear hfz17_3
  try clear hfz19_0
  try clear hfz19_1
  try clear hfz19_2
  try clear hfz19_3
  try clear hfz20_0
  try clear hfz20_1
  try clear hfz20_2
  try clear hfz20_3
  obtain ⟨kq,x33_2,rfl,HA,HJ2,BK471,BK472,HB⟩:=hcut
  cases kq with
  |zero=>exact absurd HA.out (by simp [laws_sameTree.j0])
  |succ kj2=>
   have H:=HA.out
   clear HA
   simp only [laws_sameTree.j0] at H
   by_cases c21:x33_2=true
   ·subst c21
    have H1:(some false)=some r:=by rw [if_pos rfl] at H;exact H
    clear H
    have H:=H1
    clear H1
    obtain rfl:=Option.some.inj H
    go_wp2
    go_ret
    exact ⟨by first|rfl|(simp [errW_none,errW_some] <;> rfl)|(simp [*,errW_none,errW_some] <;> rfl),by repeat (first|(with_reducible first|exact HB.out|apply below_alloc|apply pw_below_drewN|apply below_drew1|refine below_set ?_ GE471.out|refine below_set ?_ GE472.out)|exact HB.out)⟩
   ·replace c21:=Bool.eq_false_iff.mpr c21
    subst c21
    have H1:(laws_sameTree.l0 kj2 0 a0_0 a0_1 a0_2 l0_3 a1_0 a1_1 a1_2 l1_3)=some r:=by rw [if_neg (show ¬ (false=true) by decide)] at H;exact H
    clear H
    have H:=H1
    clear H1
    have H':=A0_ H
    clear H
    go_wp2
    go_loopg [5] kj2 (fun kq v5 w'=> ∃ (x5_2:Int),v5= .int .i64 x5_2∧Aside0 (laws_sameTree.l0 kq x5_2 a0_0 a0_1 a0_2 l0_3 a1_0 a1_1 a1_2 l1_3=some r)∧Aside0 (kq≤kj2)∧Aside0 (w'.heap[gb471]?= some (.cells #[.string a0_0, .string a0_1, .bool a0_2,(.slice A0_3 l0_3.length c0_3)] 26 (0,0)))∧Aside0 (w'.heap[gb472]?= some (.cells #[.string a1_0, .string a1_1, .bool a1_2,(.slice A1_3 l1_3.length c1_3)] 26 (0,0)))∧Aside0 (Below w.heap.size w w'))
    case atStart=>exact ⟨(0),(by first|rfl|(simp;done)|(simp [*];done)|(simp [bne];done)|(simp [bne, *];done)),H',⟨Nat.le_refl _⟩,⟨by (with_reducible repeat (first|refine blk_drewN ?_ _|refine blk_drew ?_|refine blk_alloc ?_ _));exact BK471.out⟩,⟨by (with_reducible repeat (first|refine blk_drewN ?_ _|refine blk_drew ?_|refine blk_alloc ?_ _));exact BK472.out⟩,⟨by repeat (first|(with_reducible first|exact HB.out|apply below_alloc|apply pw_below_drewN|apply below_drew1|refine below_set ?_ GE471.out|refine below_set ?_ GE472.out)|exact HB.out)⟩⟩
    case round=>
     clear H'
     try clear c1
     try clear c2
     try clear p2
     try clear c6
     try clear c6b0
     try clear c6b1
     try clear c7
     try clear c7b0
     try clear c7b1
     try clear c8
     try clear c8b0
     try clear c8b1
     try clear c8b2
     try clear c9
     try clear c12
     try clear c15
     try clear c18
     try clear c21
     try clear hcz10_0
     try clear hcz10_1
     try clear hcz10_2
     try clear hcz10_3
     try clear hcz11_0
     try clear hcz11_1
     try clear hcz11_2
     try clear hcz11_3
     try clear hcz13_0
     try clear hcz13_1
     try clear hcz13_2
     try clear hcz13_3
     try clear hcz14_0
     try clear hcz14_1
     try clear hcz14_2
     try clear hcz14_3
     try clear hcz16_0
     try clear hcz16_1
     try clear hcz16_2
     try clear hcz16_3
     try clear hcz17_0
     try clear hcz17_1
     try clear hcz17_2
     try clear hcz17_3
     try clear hcz19_0
     try clear hcz19_1
     try clear hcz19_2
     try clear hcz19_3
     try clear hcz20_0
     try clear hcz20_1
     try clear hcz20_2
     try clear hcz20_3
     try clear hfz10_0
     try clear hfz10_1
     try clear hfz10_2
     try clear hfz10_3
     try clear hfz11_0
     try clear hfz11_1
     try clear hfz11_2
     try clear hfz11_3
     try clear hfz13_0
     try clear hfz13_1
     try clear hfz13_2
     try clear hfz13_3
     try clear hfz14_0
     try clear hfz14_1
     try clear hfz14_2
     try clear hfz14_3
     try clear hfz16_0
     try clear hfz16_1
     try clear hfz16_2
     try clear hfz16_3
     try clear hfz17_0
     try clear hfz17_1
     try clear hfz17_2
     try clear hfz17_3
     try clear hfz19_0
     try clear hfz19_1
     try clear hfz19_2
     try clear hfz19_3
     try clear hfz20_0
     try clear hfz20_1
     try clear hfz20_2
     try clear hfz20_3
     try clear p2
     obtain ⟨x5_2,rfl,HA,HK2,BK471,BK472,HB⟩:=hrel
     cases gk with
     |zero=>exact absurd HA.out (by simp [laws_sameTree.l0])
     |succ k2=>
      have H:=HA.out
      clear HA
      simp only [laws_sameTree.l0] at H
      by_cases c22:x5_2 < (l0_3.length:Int)
      ·rw [if_pos c22] at H
       have c22b0:decide (x5_2 < (l0_3.length:Int))=true:=decide_eq_true c22
       clear c22
       by_cases c23:0≤x5_2
       ·rw [if_pos c23] at H
        have c23b0:decide (0≤x5_2)=true:=decide_eq_true c23
        clear c23
        by_cases c24:x5_2 < (l1_3.length:Int)
        ·rw [if_pos c24] at H
         have c24b0:decide (x5_2 < (l1_3.length:Int))=true:=decide_eq_true c24
         clear c24
         replace H:=Option.bind_eq_some_iff.mp H
         obtain ⟨t475,A250,H⟩:=H
         replace H:(if t475=true then (laws_sameTree.l0 k2 (wrap64 (x5_2 + 1)) a0_0 a0_1 a0_2 l0_3 a1_0 a1_1 a1_2 l1_3) else (some false))=some r:=H
         have A25:=A0_ A250
         clear A250
         by_cases c26:t475=true
         ·subst c26
          have H1:(laws_sameTree.l0 k2 (wrap64 (x5_2 + 1)) a0_0 a0_1 a0_2 l0_3 a1_0 a1_1 a1_2 l1_3)=some r:=by rw [if_pos rfl] at H;exact H
          clear H
          have H:=H1
          clear H1
          have H':=A0_ H
          clear H
          have hnb27:=NB471_472.out
          have hnc27:=NB472_471.out
          obtain ⟨hcz28_0,hcz28_1,hcz28_2,hcz28_3⟩:=bc4_ BK471.out
          obtain ⟨hfz28_0,hfz28_1,hfz28_2,hfz28_3⟩:=bf4_ BK471.out
          try go_wp2
          have n0_:=A0_ (blk_drew BK471.out)
          have n1_:=A0_ (blk_drew BK472.out)
          have n2_:=A0_ (below_drew1 HB.out)
          clear BK471
          clear BK472
          clear HB
          have BK471:=n0_
          have BK472:=n1_
          have HB:=n2_
          clear n0_ n1_ n2_
          have p473:0≤(x5_2:Int):=of_decide_eq_true (by first|(with_reducible assumption)|assumption)
          have q473:x5_2 < (l0_3.length:Int):=of_decide_eq_true (by first|(with_reducible assumption)|assumption)
          obtain ⟨ad473,A473_3,c473_3,e473,hx473_0,hx473_1,hx473_2,hx473_3,hl473_3,hi473_3⟩:=at_T26 HR0_3.out x5_2 p473 q473
          have hw473_3:=hx473_3
          have hw473_2:=hx473_2
          have hw473_1:=hx473_1
          have hw473_0:=hx473_0
          have hk473_3:=hx473_3
          cases e473
          replace hx473_0:=(HB.out.cell (World.block_lt_of_cell? w _ hx473_0)).trans hx473_0
          replace hx473_1:=(HB.out.cell (World.block_lt_of_cell? w _ hx473_1)).trans hx473_1
          replace hx473_2:=(HB.out.cell (World.block_lt_of_cell? w _ hx473_2)).trans hx473_2
          replace hx473_3:=(HB.out.cell (World.block_lt_of_cell? w _ hx473_3)).trans hx473_3
          have HR473_3:=A0_ hi473_3
          have HC473_3:=A0_ hl473_3
          clear hi473_3 hl473_3
          replace p473:=eq_true p473
          replace q473:=eq_true q473
          have p474:0≤(x5_2:Int):=of_decide_eq_true (by first|(with_reducible assumption)|assumption)
          have q474:x5_2 < (l1_3.length:Int):=of_decide_eq_true (by first|(with_reducible assumption)|assumption)
          obtain ⟨ad474,A474_3,c474_3,e474,hx474_0,hx474_1,hx474_2,hx474_3,hl474_3,hi474_3⟩:=at_T26 HR1_3.out x5_2 p474 q474
          have hw474_3:=hx474_3
          have hw474_2:=hx474_2
          have hw474_1:=hx474_1
          have hw474_0:=hx474_0
          have hk474_3:=hx474_3
          cases e474
          replace hx474_0:=(HB.out.cell (World.block_lt_of_cell? w _ hx474_0)).trans hx474_0
          replace hx474_1:=(HB.out.cell (World.block_lt_of_cell? w _ hx474_1)).trans hx474_1
          replace hx474_2:=(HB.out.cell (World.block_lt_of_cell? w _ hx474_2)).trans hx474_2
          replace hx474_3:=(HB.out.cell (World.block_lt_of_cell? w _ hx474_3)).trans hx474_3
          have HR474_3:=A0_ hi474_3
          have HC474_3:=A0_ hl474_3
          clear hi474_3 hl474_3
          replace p474:=eq_true p474
          replace q474:=eq_true q474
          refine start_ (n:=12) (S:=fun w'=>w'.cell? ⟨gb471,0,none⟩=some (.string a0_0)∧w'.cell? ⟨gb471,1,none⟩=some (.string a0_1)∧w'.cell? ⟨gb471,2,none⟩=some (.bool a0_2)∧w'.cell? ⟨gb471,3,none⟩=some (.slice (some ad473) l0_3.length c0_3)∧w'.cell? ⟨gb472,0,none⟩=some (.string a1_0)∧w'.cell? ⟨gb472,1,none⟩=some (.string a1_1)∧w'.cell? ⟨gb472,2,none⟩=some (.bool a1_2)∧w'.cell? ⟨gb472,3,none⟩=some (.slice (some ad474) l1_3.length c1_3)∧w'.cell? (ad473.add ((x5_2).toNat * 4))=some (.string ((rd_T26 l0_3 x5_2).f0))∧w'.cell? ⟨(ad473.add ((x5_2).toNat * 4)).block,(ad473.add ((x5_2).toNat * 4)).off + 1,none⟩=some (.string ((rd_T26 l0_3 x5_2).f1))∧w'.cell? ⟨(ad473.add ((x5_2).toNat * 4)).block,(ad473.add ((x5_2).toNat * 4)).off + 2,none⟩=some (.bool ((rd_T26 l0_3 x5_2).f2))∧w'.cell? ⟨(ad473.add ((x5_2).toNat * 4)).block,(ad473.add ((x5_2).toNat * 4)).off + 3,none⟩=some (.slice A473_3 ((rd_T26 l0_3 x5_2).f3).length c473_3)∧w'.cell? (ad474.add ((x5_2).toNat * 4))=some (.string ((rd_T26 l1_3 x5_2).f0))∧w'.cell? ⟨(ad474.add ((x5_2).toNat * 4)).block,(ad474.add ((x5_2).toNat * 4)).off + 1,none⟩=some (.string ((rd_T26 l1_3 x5_2).f1))∧w'.cell? ⟨(ad474.add ((x5_2).toNat * 4)).block,(ad474.add ((x5_2).toNat * 4)).off + 2,none⟩=some (.bool ((rd_T26 l1_3 x5_2).f2))∧w'.cell? ⟨(ad474.add ((x5_2).toNat * 4)).block,(ad474.add ((x5_2).toNat * 4)).off + 3,none⟩=some (.slice A474_3 ((rd_T26 l1_3 x5_2).f3).length c474_3)) (ds:= []) #[false,false,false,false,false,false,false,false,false,false,false,false] (by kernel_rfl) rfl rfl ⟨(blk_cell BK471.out 0).trans rfl,(blk_cell BK471.out 1).trans rfl,(blk_cell BK471.out 2).trans rfl,(blk_cell BK471.out 3).trans rfl,(blk_cell BK472.out 0).trans rfl,(blk_cell BK472.out 1).trans rfl,(blk_cell BK472.out 2).trans rfl,(blk_cell BK472.out 3).trans rfl,((HB.out.cell (World.block_lt_of_cell? w _ hw473_0)).trans hw473_0),((HB.out.cell (World.block_lt_of_cell? w _ hw473_1)).trans hw473_1),((HB.out.cell (World.block_lt_of_cell? w _ hw473_2)).trans hw473_2),((HB.out.cell (World.block_lt_of_cell? w _ hw473_3)).trans hw473_3),((HB.out.cell (World.block_lt_of_cell? w _ hw474_0)).trans hw474_0),((HB.out.cell (World.block_lt_of_cell? w _ hw474_1)).trans hw474_1),((HB.out.cell (World.block_lt_of_cell? w _ hw474_2)).trans hw474_2),((HB.out.cell (World.block_lt_of_cell? w _ hw474_3)).trans hw474_3)⟩ (fun hHeld=> ?_);refine with_tabW laws_sameTree.tab6 laws_sameTree.bits6 (fun HT_ HW_=> ?_)
          generalize wr.drew=w29 at BK471 BK472 HB HR473_3 HR474_3 hx473_0 hx473_1 hx473_2 hx473_3 hx474_0 hx474_1 hx474_2 hx474_3 hHeld ⊢
          refine pure_ (i:=0) (N:=some 41) (v:= ?_) (a':= ?_) #[true,false,false,false,false,false,false,false,false,false,false,false] rfl rfl (any_of HT_.out (by kernel_rfl)) (fun _ _ _ h=>h) (Or.inl ⟨by rfl, ?_⟩) ?_ ?_
          rotate_left
          ·intro w'
           go_simp
           with_reducible rfl
          rotate_left
          ·simp only [Act.put,List.setIfInBounds_toArray,List.set_cons_zero,List.set_cons_succ,i64_w,i32_w]
           rfl
          refine pure_ (i:=2) (N:=some 43) (v:= ?_) (a':= ?_) #[true,false,true,false,false,false,false,false,false,false,false,false] rfl rfl (any_of HT_.out (by kernel_rfl)) (fun _ _ _ h=>h) (Or.inl ⟨by rfl, ?_⟩) ?_ ?_
          rotate_left
          ·intro w'
           go_simp
           with_reducible rfl
          rotate_left
          ·simp only [Act.put,List.setIfInBounds_toArray,List.set_cons_zero,List.set_cons_succ,i64_w,i32_w]
           rfl
          refine pure_ (i:=5) (N:=some 46) (v:= ?_) (a':= ?_) #[true,false,true,false,false,true,false,false,false,false,false,false] rfl rfl (any_of HT_.out (by kernel_rfl)) (fun _ _ _ h=>h) (Or.inl ⟨by rfl, ?_⟩) ?_ ?_
          rotate_left
          ·intro w'
           go_simp
           with_reducible rfl
          rotate_left
          ·simp only [Act.put,List.setIfInBounds_toArray,List.set_cons_zero,List.set_cons_succ,i64_w,i32_w]
           rfl
          refine pure_ (i:=7) (N:=some 48) (v:= ?_) (a':= ?_) #[true,false,true,false,false,true,false,true,false,false,false,false] rfl rfl (any_of HT_.out (by kernel_rfl)) (fun _ _ _ h=>h) (Or.inl ⟨by rfl, ?_⟩) ?_ ?_
          rotate_left
          ·intro w'
           go_simp
           with_reducible rfl
          rotate_left
          ·simp only [Act.put,List.setIfInBounds_toArray,List.set_cons_zero,List.set_cons_succ,i64_w,i32_w]
           rfl
          refine take_ (i:=1) (N:=some 42) (v:= ?_) (a':= ?_) #[true,true,true,false,false,true,false,true,false,false,false,false] rfl rfl (take_ofW HT_.out HW_.out (by kernel_rfl)) (fun _ _ _ h=>h) (Or.inl ⟨by rfl, ?_⟩) hHeld ?_ ?_
          rotate_left
          ·rintro w' ⟨s0,s1,s2,s3,s4,s5,s6,s7,s8,s9,s10,s11,s12,s13,s14,s15⟩
           go_simp
           with_reducible rfl
          rotate_left
          ·simp only [Act.put,List.setIfInBounds_toArray,List.set_cons_zero,List.set_cons_succ,i64_w,i32_w]
           rfl
          refine pure_ (i:=3) (N:=some 44) (v:= ?_) (a':= ?_) #[true,true,true,true,false,true,false,true,false,false,false,false] rfl rfl (any_of HT_.out (by kernel_rfl)) (fun _ _ _ h=>h) (Or.inl ⟨by rfl, ?_⟩) ?_ ?_
          rotate_left
          ·intro w'
           go_simp
           with_reducible rfl
          rotate_left
          ·simp only [Act.put,List.setIfInBounds_toArray,List.set_cons_zero,List.set_cons_succ,i64_w,i32_w]
           rfl
          refine take_ (i:=4) (N:=some 45) (v:= ?_) (a':= ?_) #[true,true,true,true,true,true,false,true,false,false,false,false] rfl rfl (take_ofW HT_.out HW_.out (by kernel_rfl)) (fun _ _ _ h=>h) (Or.inl ⟨by rfl, ?_⟩) hHeld ?_ ?_
          rotate_left
          ·rintro w' ⟨s0,s1,s2,s3,s4,s5,s6,s7,s8,s9,s10,s11,s12,s13,s14,s15⟩
           go_simp
           with_reducible rfl
          rotate_left
          ·simp only [Act.put,List.setIfInBounds_toArray,List.set_cons_zero,List.set_cons_succ,i64_w,i32_w]
           rfl
          refine take_ (i:=6) (N:=some 47) (v:= ?_) (a':= ?_) #[true,true,true,true,true,true,true,true,false,false,false,false] rfl rfl (take_ofW HT_.out HW_.out (by kernel_rfl)) (fun _ _ _ h=>h) (Or.inl ⟨by rfl, ?_⟩) hHeld ?_ ?_
          rotate_left
          ·rintro w' ⟨s0,s1,s2,s3,s4,s5,s6,s7,s8,s9,s10,s11,s12,s13,s14,s15⟩
           go_simp
           with_reducible rfl
          rotate_left
          ·simp only [Act.put,List.setIfInBounds_toArray,List.set_cons_zero,List.set_cons_succ,i64_w,i32_w]
           rfl
          refine pure_ (i:=8) (N:=some 49) (v:= ?_) (a':= ?_) #[true,true,true,true,true,true,true,true,true,false,false,false] rfl rfl (any_of HT_.out (by kernel_rfl)) (fun _ _ _ h=>h) (Or.inl ⟨by rfl, ?_⟩) ?_ ?_
          rotate_left
          ·intro w'
           go_simp
           with_reducible rfl
          rotate_left
          ·simp only [Act.put,List.setIfInBounds_toArray,List.set_cons_zero,List.set_cons_succ,i64_w,i32_w]
           rfl
          refine take_ (i:=9) (N:=some 50) (v:= ?_) (a':= ?_) #[true,true,true,true,true,true,true,true,true,true,false,false] rfl rfl (take_ofW HT_.out HW_.out (by kernel_rfl)) (fun _ _ _ h=>h) (Or.inl ⟨by rfl, ?_⟩) hHeld ?_ ?_
          rotate_left
          ·rintro w' ⟨s0,s1,s2,s3,s4,s5,s6,s7,s8,s9,s10,s11,s12,s13,s14,s15⟩
           go_simp
           with_reducible rfl
          rotate_left
          ·simp only [Act.put,List.setIfInBounds_toArray,List.set_cons_zero,List.set_cons_succ,i64_w,i32_w]
           rfl
          refine one_ (i:=10) (N:=some 51) #[true,true,true,true,true,true,true,true,true,true,true,false] rfl rfl (one_of HT_.out (by kernel_rfl)) (by decide) (fun K hK=> ?_)
          refine goes_ Try.func12 (by kernel_rfl) rfl #[.agg #[.string ((rd_T26 l0_3 x5_2).f0), .string ((rd_T26 l0_3 x5_2).f1), .bool ((rd_T26 l0_3 x5_2).f2), .slice A473_3 ((rd_T26 l0_3 x5_2).f3).length c473_3], .agg #[.string ((rd_T26 l1_3 x5_2).f0), .string ((rd_T26 l1_3 x5_2).f1), .bool ((rd_T26 l1_3 x5_2).f2), .slice A474_3 ((rd_T26 l1_3 x5_2).f3).length c474_3]] (by rfl) rfl rfl (by (try simp only [List.map_toArray,List.map_cons,List.map_nil]);first|done|rfl|(simp only [List.length_drop,List.length_take];rfl)) ?_
          with_reducible refine (ih k2 (by have:=HJ2.out;have:=HK2.out;omega) ((rd_T26 l0_3 x5_2).f0) ((rd_T26 l0_3 x5_2).f1) ((rd_T26 l0_3 x5_2).f2) _ _ ((rd_T26 l0_3 x5_2).f3) ((rd_T26 l1_3 x5_2).f0) ((rd_T26 l1_3 x5_2).f1) ((rd_T26 l1_3 x5_2).f2) _ _ ((rd_T26 l1_3 x5_2).f3) true _ ?side1 ?side2 ?side3 ?side4 A25.out).mono ?_
          (case side1=>repeat (first|exact (Kd.C_below HR473_3.out HB.out)|(with_reducible refine Kd.C_alloc ?_ _)|(with_reducible refine Kd.C_drewN ?_ _)|(with_reducible refine Kd.C_drew ?_)))
          (case side2=>exact HC473_3.out)
          (case side3=>repeat (first|exact (Kd.C_below HR474_3.out HB.out)|(with_reducible refine Kd.C_alloc ?_ _)|(with_reducible refine Kd.C_drewN ?_ _)|(with_reducible refine Kd.C_drew ?_)))
          (case side4=>exact HC474_3.out)
          rintro e w30 ⟨rfl,hb⟩
          refine ⟨_,rfl, ?_⟩
          have n0_:=A0_ (blk_below BK471.out hb)
          have n1_:=A0_ (blk_below BK472.out hb)
          have n2_:=A0_ (below_step HB.out hb)
          clear BK471
          clear BK472
          clear HB
          have BK471:=n0_
          have BK472:=n1_
          have HB:=n2_
          clear n0_ n1_ n2_
          (try clear hb)
          (try clear hb2)
          (try clear hk)
          (try clear hi)
          refine hK.out _ _ ⟨(blk_cell BK471.out 0).trans rfl,(blk_cell BK471.out 1).trans rfl,(blk_cell BK471.out 2).trans rfl,(blk_cell BK471.out 3).trans rfl,(blk_cell BK472.out 0).trans rfl,(blk_cell BK472.out 1).trans rfl,(blk_cell BK472.out 2).trans rfl,(blk_cell BK472.out 3).trans rfl,((HB.out.cell (World.block_lt_of_cell? w _ hw473_0)).trans hw473_0),((HB.out.cell (World.block_lt_of_cell? w _ hw473_1)).trans hw473_1),((HB.out.cell (World.block_lt_of_cell? w _ hw473_2)).trans hw473_2),((HB.out.cell (World.block_lt_of_cell? w _ hw473_3)).trans hw473_3),((HB.out.cell (World.block_lt_of_cell? w _ hw474_0)).trans hw474_0),((HB.out.cell (World.block_lt_of_cell? w _ hw474_1)).trans hw474_1),((HB.out.cell (World.block_lt_of_cell? w _ hw474_2)).trans hw474_2),((HB.out.cell (World.block_lt_of_cell? w _ hw474_3)).trans hw474_3)⟩ (fun hHeld=> ?_)
          clear hK K
          refine norm_ (a':= ?_) ?_ ?_
          rotate_left
          ·show Act.put _ (some 51) _=_
           simp only [Act.put,List.setIfInBounds_toArray,List.set_cons_zero,List.set_cons_succ,i64_w,i32_w]
           rfl
          refine pure_ (i:=11) (N:=some 52) (v:= ?_) (a':= ?_) #[true,true,true,true,true,true,true,true,true,true,true,true] rfl rfl (any_of HT_.out (by kernel_rfl)) (fun _ _ _ h=>h) (Or.inl ⟨by rfl, ?_⟩) ?_ ?_
          rotate_left
          ·intro w'
           go_simp
           with_reducible rfl
          rotate_left
          ·simp only [Act.put,List.setIfInBounds_toArray,List.set_cons_zero,List.set_cons_succ,i64_w,i32_w]
           rfl
          refine done_ (done_of HT_.out (by kernel_rfl)) ?_
          try go_wp2
          go_roundg k2
          case measure=>have:=HJ2.out;have:=HK2.out;omega
          case rel=>exact ⟨(wrap64 (x5_2 + 1)),(by first|rfl|(simp;done)|(simp [*];done)|(simp [bne];done)|(simp [bne, *];done)),H',⟨by have:=HJ2.out;have:=HK2.out;omega⟩,⟨by (with_reducible repeat (first|refine blk_drewN ?_ _|refine blk_drew ?_|refine blk_alloc ?_ _));exact BK471.out⟩,⟨by (with_reducible repeat (first|refine blk_drewN ?_ _|refine blk_drew ?_|refine blk_alloc ?_ _));exact BK472.out⟩,⟨by repeat (first|(with_reducible first|exact HB.out|apply below_alloc|apply pw_below_drewN|apply below_drew1|refine below_set ?_ GE471.out|refine below_set ?_ GE472.out)|exact HB.out)⟩⟩
         ·replace c26:=Bool.eq_false_iff.mpr c26
          subst c26
          have H1:(some false)=some r:=by rw [if_neg (show ¬ (false=true) by decide)] at H;exact H
          clear H
          have H:=H1
          clear H1
          obtain rfl:=Option.some.inj H
          have hnb31:=NB471_472.out
          have hnc31:=NB472_471.out
          obtain ⟨hcz32_0,hcz32_1,hcz32_2,hcz32_3⟩:=bc4_ BK471.out
          obtain ⟨hfz32_0,hfz32_1,hfz32_2,hfz32_3⟩:=bf4_ BK471.out
          try go_wp2
          have n0_:=A0_ (blk_drew BK471.out)
          have n1_:=A0_ (blk_drew BK472.out)
          have n2_:=A0_ (below_drew1 HB.out)
          clear BK471
          clear BK472
          clear HB
          have BK471:=n0_
          have BK472:=n1_
          have HB:=n2_
          clear n0_ n1_ n2_
          have p473:0≤(x5_2:Int):=of_decide_eq_true (by first|(with_reducible assumption)|assumption)
          have q473:x5_2 < (l0_3.length:Int):=of_decide_eq_true (by first|(with_reducible assumption)|assumption)
          obtain ⟨ad473,A473_3,c473_3,e473,hx473_0,hx473_1,hx473_2,hx473_3,hl473_3,hi473_3⟩:=at_T26 HR0_3.out x5_2 p473 q473
          have hw473_3:=hx473_3
          have hw473_2:=hx473_2
          have hw473_1:=hx473_1
          have hw473_0:=hx473_0
          have hk473_3:=hx473_3
          cases e473
          replace hx473_0:=(HB.out.cell (World.block_lt_of_cell? w _ hx473_0)).trans hx473_0
          replace hx473_1:=(HB.out.cell (World.block_lt_of_cell? w _ hx473_1)).trans hx473_1
          replace hx473_2:=(HB.out.cell (World.block_lt_of_cell? w _ hx473_2)).trans hx473_2
          replace hx473_3:=(HB.out.cell (World.block_lt_of_cell? w _ hx473_3)).trans hx473_3
          have HR473_3:=A0_ hi473_3
          have HC473_3:=A0_ hl473_3
          clear hi473_3 hl473_3
          replace p473:=eq_true p473
          replace q473:=eq_true q473
          have p474:0≤(x5_2:Int):=of_decide_eq_true (by first|(with_reducible assumption)|assumption)
          have q474:x5_2 < (l1_3.length:Int):=of_decide_eq_true (by first|(with_reducible assumption)|assumption)
          obtain ⟨ad474,A474_3,c474_3,e474,hx474_0,hx474_1,hx474_2,hx474_3,hl474_3,hi474_3⟩:=at_T26 HR1_3.out x5_2 p474 q474
          have hw474_3:=hx474_3
          have hw474_2:=hx474_2
          have hw474_1:=hx474_1
          have hw474_0:=hx474_0
          have hk474_3:=hx474_3
          cases e474
          replace hx474_0:=(HB.out.cell (World.block_lt_of_cell? w _ hx474_0)).trans hx474_0
          replace hx474_1:=(HB.out.cell (World.block_lt_of_cell? w _ hx474_1)).trans hx474_1
          replace hx474_2:=(HB.out.cell (World.block_lt_of_cell? w _ hx474_2)).trans hx474_2
          replace hx474_3:=(HB.out.cell (World.block_lt_of_cell? w _ hx474_3)).trans hx474_3
          have HR474_3:=A0_ hi474_3
          have HC474_3:=A0_ hl474_3
          clear hi474_3 hl474_3
          replace p474:=eq_true p474
          replace q474:=eq_true q474
          refine start_ (n:=12) (S:=fun w'=>w'.cell? ⟨gb471,0,none⟩=some (.string a0_0)∧w'.cell? ⟨gb471,1,none⟩=some (.string a0_1)∧w'.cell? ⟨gb471,2,none⟩=some (.bool a0_2)∧w'.cell? ⟨gb471,3,none⟩=some (.slice (some ad473) l0_3.length c0_3)∧w'.cell? ⟨gb472,0,none⟩=some (.string a1_0)∧w'.cell? ⟨gb472,1,none⟩=some (.string a1_1)∧w'.cell? ⟨gb472,2,none⟩=some (.bool a1_2)∧w'.cell? ⟨gb472,3,none⟩=some (.slice (some ad474) l1_3.length c1_3)∧w'.cell? (ad473.add ((x5_2).toNat * 4))=some (.string ((rd_T26 l0_3 x5_2).f0))∧w'.cell? ⟨(ad473.add ((x5_2).toNat * 4)).block,(ad473.add ((x5_2).toNat * 4)).off + 1,none⟩=some (.string ((rd_T26 l0_3 x5_2).f1))∧w'.cell? ⟨(ad473.add ((x5_2).toNat * 4)).block,(ad473.add ((x5_2).toNat * 4)).off + 2,none⟩=some (.bool ((rd_T26 l0_3 x5_2).f2))∧w'.cell? ⟨(ad473.add ((x5_2).toNat * 4)).block,(ad473.add ((x5_2).toNat * 4)).off + 3,none⟩=some (.slice A473_3 ((rd_T26 l0_3 x5_2).f3).length c473_3)∧w'.cell? (ad474.add ((x5_2).toNat * 4))=some (.string ((rd_T26 l1_3 x5_2).f0))∧w'.cell? ⟨(ad474.add ((x5_2).toNat * 4)).block,(ad474.add ((x5_2).toNat * 4)).off + 1,none⟩=some (.string ((rd_T26 l1_3 x5_2).f1))∧w'.cell? ⟨(ad474.add ((x5_2).toNat * 4)).block,(ad474.add ((x5_2).toNat * 4)).off + 2,none⟩=some (.bool ((rd_T26 l1_3 x5_2).f2))∧w'.cell? ⟨(ad474.add ((x5_2).toNat * 4)).block,(ad474.add ((x5_2).toNat * 4)).off + 3,none⟩=some (.slice A474_3 ((rd_T26 l1_3 x5_2).f3).length c474_3)) (ds:= []) #[false,false,false,false,false,false,false,false,false,false,false,false] (by kernel_rfl) rfl rfl ⟨(blk_cell BK471.out 0).trans rfl,(blk_cell BK471.out 1).trans rfl,(blk_cell BK471.out 2).trans rfl,(blk_cell BK471.out 3).trans rfl,(blk_cell BK472.out 0).trans rfl,(blk_cell BK472.out 1).trans rfl,(blk_cell BK472.out 2).trans rfl,(blk_cell BK472.out 3).trans rfl,((HB.out.cell (World.block_lt_of_cell? w _ hw473_0)).trans hw473_0),((HB.out.cell (World.block_lt_of_cell? w _ hw473_1)).trans hw473_1),((HB.out.cell (World.block_lt_of_cell? w _ hw473_2)).trans hw473_2),((HB.out.cell (World.block_lt_of_cell? w _ hw473_3)).trans hw473_3),((HB.out.cell (World.block_lt_of_cell? w _ hw474_0)).trans hw474_0),((HB.out.cell (World.block_lt_of_cell? w _ hw474_1)).trans hw474_1),((HB.out.cell (World.block_lt_of_cell? w _ hw474_2)).trans hw474_2),((HB.out.cell (World.block_lt_of_cell? w _ hw474_3)).trans hw474_3)⟩ (fun hHeld=> ?_);refine with_tabW laws_sameTree.tab6 laws_sameTree.bits6 (fun HT_ HW_=> ?_)
          generalize wr.drew=w33 at BK471 BK472 HB HR473_3 HR474_3 hx473_0 hx473_1 hx473_2 hx473_3 hx474_0 hx474_1 hx474_2 hx474_3 hHeld ⊢
          refine pure_ (i:=0) (N:=some 41) (v:= ?_) (a':= ?_) #[true,false,false,false,false,false,false,false,false,false,false,false] rfl rfl (any_of HT_.out (by kernel_rfl)) (fun _ _ _ h=>h) (Or.inl ⟨by rfl, ?_⟩) ?_ ?_
          rotate_left
          ·intro w'
           go_simp
           with_reducible rfl
          rotate_left
          ·simp only [Act.put,List.setIfInBounds_toArray,List.set_cons_zero,List.set_cons_succ,i64_w,i32_w]
           rfl
          refine pure_ (i:=2) (N:=some 43) (v:= ?_) (a':= ?_) #[true,false,true,false,false,false,false,false,false,false,false,false] rfl rfl (any_of HT_.out (by kernel_rfl)) (fun _ _ _ h=>h) (Or.inl ⟨by rfl, ?_⟩) ?_ ?_
          rotate_left
          ·intro w'
           go_simp
           with_reducible rfl
          rotate_left
          ·simp only [Act.put,List.setIfInBounds_toArray,List.set_cons_zero,List.set_cons_succ,i64_w,i32_w]
           rfl
          refine pure_ (i:=5) (N:=some 46) (v:= ?_) (a':= ?_) #[true,false,true,false,false,true,false,false,false,false,false,false] rfl rfl (any_of HT_.out (by kernel_rfl)) (fun _ _ _ h=>h) (Or.inl ⟨by rfl, ?_⟩) ?_ ?_
          rotate_left
          ·intro w'
           go_simp
           with_reducible rfl
          rotate_left
          ·simp only [Act.put,List.setIfInBounds_toArray,List.set_cons_zero,List.set_cons_succ,i64_w,i32_w]
           rfl
          refine pure_ (i:=7) (N:=some 48) (v:= ?_) (a':= ?_) #[true,false,true,false,false,true,false,true,false,false,false,false] rfl rfl (any_of HT_.out (by kernel_rfl)) (fun _ _ _ h=>h) (Or.inl ⟨by rfl, ?_⟩) ?_ ?_
          rotate_left
          ·intro w'
           go_simp
           with_reducible rfl
          rotate_left
          ·simp only [Act.put,List.setIfInBounds_toArray,List.set_cons_zero,List.set_cons_succ,i64_w,i32_w]
           rfl
          refine take_ (i:=1) (N:=some 42) (v:= ?_) (a':= ?_) #[true,true,true,false,false,true,false,true,false,false,false,false] rfl rfl (take_ofW HT_.out HW_.out (by kernel_rfl)) (fun _ _ _ h=>h) (Or.inl ⟨by rfl, ?_⟩) hHeld ?_ ?_
          rotate_left
          ·rintro w' ⟨s0,s1,s2,s3,s4,s5,s6,s7,s8,s9,s10,s11,s12,s13,s14,s15⟩
           go_simp
           with_reducible rfl
          rotate_left
          ·simp only [Act.put,List.setIfInBounds_toArray,List.set_cons_zero,List.set_cons_succ,i64_w,i32_w]
           rfl
          refine pure_ (i:=3) (N:=some 44) (v:= ?_) (a':= ?_) #[true,true,true,true,false,true,false,true,false,false,false,false] rfl rfl (any_of HT_.out (by kernel_rfl)) (fun _ _ _ h=>h) (Or.inl ⟨by rfl, ?_⟩) ?_ ?_
          rotate_left
          ·intro w'
           go_simp
           with_reducible rfl
          rotate_left
          ·simp only [Act.put,List.setIfInBounds_toArray,List.set_cons_zero,List.set_cons_succ,i64_w,i32_w]
           rfl
          refine take_ (i:=4) (N:=some 45) (v:= ?_) (a':= ?_) #[true,true,true,true,true,true,false,true,false,false,false,false] rfl rfl (take_ofW HT_.out HW_.out (by kernel_rfl)) (fun _ _ _ h=>h) (Or.inl ⟨by rfl, ?_⟩) hHeld ?_ ?_
          rotate_left
          ·rintro w' ⟨s0,s1,s2,s3,s4,s5,s6,s7,s8,s9,s10,s11,s12,s13,s14,s15⟩
           go_simp
           with_reducible rfl
          rotate_left
          ·simp only [Act.put,List.setIfInBounds_toArray,List.set_cons_zero,List.set_cons_succ,i64_w,i32_w]
           rfl
          refine take_ (i:=6) (N:=some 47) (v:= ?_) (a':= ?_) #[true,true,true,true,true,true,true,true,false,false,false,false] rfl rfl (take_ofW HT_.out HW_.out (by kernel_rfl)) (fun _ _ _ h=>h) (Or.inl ⟨by rfl, ?_⟩) hHeld ?_ ?_
          rotate_left
          ·rintro w' ⟨s0,s1,s2,s3,s4,s5,s6,s7,s8,s9,s10,s11,s12,s13,s14,s15⟩
           go_simp
           with_reducible rfl
          rotate_left
          ·simp only [Act.put,List.setIfInBounds_toArray,List.set_cons_zero,List.set_cons_succ,i64_w,i32_w]
           rfl
          refine pure_ (i:=8) (N:=some 49) (v:= ?_) (a':= ?_) #[true,true,true,true,true,true,true,true,true,false,false,false] rfl rfl (any_of HT_.out (by kernel_rfl)) (fun _ _ _ h=>h) (Or.inl ⟨by rfl, ?_⟩) ?_ ?_
          rotate_left
          ·intro w'
           go_simp
           with_reducible rfl
          rotate_left
          ·simp only [Act.put,List.setIfInBounds_toArray,List.set_cons_zero,List.set_cons_succ,i64_w,i32_w]
           rfl
          refine take_ (i:=9) (N:=some 50) (v:= ?_) (a':= ?_) #[true,true,true,true,true,true,true,true,true,true,false,false] rfl rfl (take_ofW HT_.out HW_.out (by kernel_rfl)) (fun _ _ _ h=>h) (Or.inl ⟨by rfl, ?_⟩) hHeld ?_ ?_
          rotate_left
          ·rintro w' ⟨s0,s1,s2,s3,s4,s5,s6,s7,s8,s9,s10,s11,s12,s13,s14,s15⟩
           go_simp
           with_reducible rfl
          rotate_left
          ·simp only [Act.put,List.setIfInBounds_toArray,List.set_cons_zero,List.set_cons_succ,i64_w,i32_w]
           rfl
          refine one_ (i:=10) (N:=some 51) #[true,true,true,true,true,true,true,true,true,true,true,false] rfl rfl (one_of HT_.out (by kernel_rfl)) (by decide) (fun K hK=> ?_)
          refine goes_ Try.func12 (by kernel_rfl) rfl #[.agg #[.string ((rd_T26 l0_3 x5_2).f0), .string ((rd_T26 l0_3 x5_2).f1), .bool ((rd_T26 l0_3 x5_2).f2), .slice A473_3 ((rd_T26 l0_3 x5_2).f3).length c473_3], .agg #[.string ((rd_T26 l1_3 x5_2).f0), .string ((rd_T26 l1_3 x5_2).f1), .bool ((rd_T26 l1_3 x5_2).f2), .slice A474_3 ((rd_T26 l1_3 x5_2).f3).length c474_3]] (by rfl) rfl rfl (by (try simp only [List.map_toArray,List.map_cons,List.map_nil]);first|done|rfl|(simp only [List.length_drop,List.length_take];rfl)) ?_
          with_reducible refine (ih k2 (by have:=HJ2.out;have:=HK2.out;omega) ((rd_T26 l0_3 x5_2).f0) ((rd_T26 l0_3 x5_2).f1) ((rd_T26 l0_3 x5_2).f2) _ _ ((rd_T26 l0_3 x5_2).f3) ((rd_T26 l1_3 x5_2).f0) ((rd_T26 l1_3 x5_2).f1) ((rd_T26 l1_3 x5_2).f2) _ _ ((rd_T26 l1_3 x5_2).f3) false _ ?side1 ?side2 ?side3 ?side4 A25.out).mono ?_
          (case side1=>repeat (first|exact (Kd.C_below HR473_3.out HB.out)|(with_reducible refine Kd.C_alloc ?_ _)|(with_reducible refine Kd.C_drewN ?_ _)|(with_reducible refine Kd.C_drew ?_)))
          (case side2=>exact HC473_3.out)
          (case side3=>repeat (first|exact (Kd.C_below HR474_3.out HB.out)|(with_reducible refine Kd.C_alloc ?_ _)|(with_reducible refine Kd.C_drewN ?_ _)|(with_reducible refine Kd.C_drew ?_)))
          (case side4=>exact HC474_3.out)
          rintro e w34 ⟨rfl,hb⟩
          refine ⟨_,rfl, ?_⟩
          have n0_:=A0_ (blk_below BK471.out hb)
          have n1_:=A0_ (blk_below BK472.out hb)
          have n2_:=A0_ (below_step HB.out hb)
          clear BK471
          clear BK472
          clear HB
          have BK471:=n0_
          have BK472:=n1_
          have HB:=n2_
          clear n0_ n1_ n2_
          (try clear hb)
          (try clear hb2)
          (try clear hk)
          (try clear hi)
          refine hK.out _ _ ⟨(blk_cell BK471.out 0).trans rfl,(blk_cell BK471.out 1).trans rfl,(blk_cell BK471.out 2).trans rfl,(blk_cell BK471.out 3).trans rfl,(blk_cell BK472.out 0).trans rfl,(blk_cell BK472.out 1).trans rfl,(blk_cell BK472.out 2).trans rfl,(blk_cell BK472.out 3).trans rfl,((HB.out.cell (World.block_lt_of_cell? w _ hw473_0)).trans hw473_0),((HB.out.cell (World.block_lt_of_cell? w _ hw473_1)).trans hw473_1),((HB.out.cell (World.block_lt_of_cell? w _ hw473_2)).trans hw473_2),((HB.out.cell (World.block_lt_of_cell? w _ hw473_3)).trans hw473_3),((HB.out.cell (World.block_lt_of_cell? w _ hw474_0)).trans hw474_0),((HB.out.cell (World.block_lt_of_cell? w _ hw474_1)).trans hw474_1),((HB.out.cell (World.block_lt_of_cell? w _ hw474_2)).trans hw474_2),((HB.out.cell (World.block_lt_of_cell? w _ hw474_3)).trans hw474_3)⟩ (fun hHeld=> ?_)
          clear hK K
          refine norm_ (a':= ?_) ?_ ?_
          rotate_left
          ·show Act.put _ (some 51) _=_
           simp only [Act.put,List.setIfInBounds_toArray,List.set_cons_zero,List.set_cons_succ,i64_w,i32_w]
           rfl
          refine pure_ (i:=11) (N:=some 52) (v:= ?_) (a':= ?_) #[true,true,true,true,true,true,true,true,true,true,true,true] rfl rfl (any_of HT_.out (by kernel_rfl)) (fun _ _ _ h=>h) (Or.inl ⟨by rfl, ?_⟩) ?_ ?_
          rotate_left
          ·intro w'
           go_simp
           with_reducible rfl
          rotate_left
          ·simp only [Act.put,List.setIfInBounds_toArray,List.set_cons_zero,List.set_cons_succ,i64_w,i32_w]
           rfl
          refine done_ (done_of HT_.out (by kernel_rfl)) ?_
          try go_wp2
          go_ret
          exact ⟨by first|rfl|(simp [errW_none,errW_some] <;> rfl)|(simp [*,errW_none,errW_some] <;> rfl),by repeat (first|(with_reducible first|exact HB.out|apply below_alloc|apply pw_below_drewN|apply below_drew1|refine below_set ?_ GE471.out|refine below_set ?_ GE472.out)|exact HB.out)⟩
        ·rw [if_neg c24] at H
         exact absurd H (by simp)
       ·rw [if_neg c23] at H
        exact absurd H (by simp)
      ·rw [if_neg c22] at H
       have c22b0:decide (x5_2 < (l0_3.length:Int))=false:=decide_eq_false c22
       clear c22
       obtain rfl:=Option.some.inj H
       have hnb35:=NB471_472.out
       have hnc35:=NB472_471.out
       obtain ⟨hcz36_0,hcz36_1,hcz36_2,hcz36_3⟩:=bc4_ BK471.out
       obtain ⟨hfz36_0,hfz36_1,hfz36_2,hfz36_3⟩:=bf4_ BK471.out
       go_wp2
       go_ret
       exact ⟨by first|rfl|(simp [errW_none,errW_some] <;> rfl)|(simp [*,errW_none,errW_some] <;> rfl),by repeat (first|(with_reducible first|exact HB.out|apply below_alloc|apply pw_below_drewN|apply below_drew1|refine below_set ?_ GE471.out|refine below_set ?_ GE472.out)|exact HB.out)⟩
end Go.Proofs.Ytakpkmkjhndpjaa.Q
end
section
namespace Go.Proofs.Ytakpkmkjhndpjaa.Q
open Go.RowKit Go.Proofs.YtakpkmkjhndpjaaW.PrintWords Go.Proofs.YtakpkmkjhndpjaaW.PrintLast Go.Proofs.YtakpkmkjhndpjaaW.PrintMore
attribute [local go_sem] max2_int min2_int max_two min_two max_three min_three max_four min_four
set_option linter.unusedVariables false
set_option linter.unusedSimpArgs false
def impl_TreeAt.f (k:Nat) (a0_0:ByteArray) (a0_1:ByteArray) (a0_2:Bool) (l0_3:List (S26)) (l1:List Int):Option (ByteArray × ByteArray × Bool × (List (S26)) × Int):=(impl_TreeOK.f k a0_0 a0_1 a0_2 l0_3).bind fun t478=>(if t478=true then ((impl_at.f k a0_0 a0_1 a0_2 l0_3 l1).bind fun bt479=>(if bt479.2.2.2.2=true then ((impl_copyTree.f k bt479.1 bt479.2.1 bt479.2.2.1 bt479.2.2.2.1).bind fun bt487=>(some (bt487.1,bt487.2.1,bt487.2.2.1,bt487.2.2.2,0))) else (some ((⟨#[]⟩:ByteArray),(⟨#[]⟩:ByteArray),false,([]:List (S26)),4)))) else (some ((⟨#[]⟩:ByteArray),(⟨#[]⟩:ByteArray),false,([]:List (S26)),1)))
set_option maxHeartbeats 8000000 in
set_option maxRecDepth 100000 in
theorem impl_TreeAt.calls (k:Nat) (a0_0:ByteArray) (a0_1:ByteArray) (a0_2:Bool) (A0_3:Option Addr) (c0_3:Nat) (l0_3:List (S26)) (A1:Option Addr) (c1:Nat) (l1:List Int) (r1:ByteArray) (r2:ByteArray) (r3:Bool) (r4:List (S26)) (r5:Int) (w:World) (hr0_3:Kd.C k26 w A0_3 l0_3.length l0_3) (hc0_3:l0_3.length≤c0_3) (hr1:Kd.C (Kd.int .i64) w A1 l1.length l1) (hc1:l1.length≤c1) (h:impl_TreeAt.f k a0_0 a0_1 a0_2 l0_3 l1=some (r1,r2,r3,r4,r5)):
  Calls Try.prog 13 #[.agg #[.string a0_0, .string a0_1, .bool a0_2, .slice A0_3 l0_3.length c0_3], .slice A1 l1.length c1] w fun e w'=> ∃ v3_:Value,e= .returned (.tuple #[.agg #[.string r1, .string r2, .bool r3,v3_], .int .i64 r5])∧Kd.R k26 26 w' w.heap.size (fun _=>True) v3_ r4∧Below w.heap.size w w':=by
 have hu26:=Try.underlying26
 have HR0_3:=A0_ hr0_3
 have HC0_3:=A0_ hc0_3
 clear hr0_3 hc0_3
 have HR1:=A0_ hr1
 have HC1:=A0_ hc1
 clear hr1 hc1
 have HB:=A0_ (Below.refl w.heap.size w)
 have H:((impl_TreeOK.f k a0_0 a0_1 a0_2 l0_3).bind fun t478=>(if t478=true then ((impl_at.f k a0_0 a0_1 a0_2 l0_3 l1).bind fun bt479=>(if bt479.2.2.2.2=true then ((impl_copyTree.f k bt479.1 bt479.2.1 bt479.2.2.1 bt479.2.2.2.1).bind fun bt487=>(some (bt487.1,bt487.2.1,bt487.2.2.1,bt487.2.2.2,0))) else (some ((⟨#[]⟩:ByteArray),(⟨#[]⟩:ByteArray),false,([]:List (S26)),4)))) else (some ((⟨#[]⟩:ByteArray),(⟨#[]⟩:ByteArray),false,([]:List (S26)),1))))=some (r1,r2,r3,r4,r5):=h
 clear h
 replace H:=Option.bind_eq_some_iff.mp H
 obtain ⟨t478,A30,H⟩:=H
 replace H:(if t478=true then ((impl_at.f k a0_0 a0_1 a0_2 l0_3 l1).bind fun bt479=>(if bt479.2.2.2.2=true then ((impl_copyTree.f k bt479.1 bt479.2.1 bt479.2.2.1 bt479.2.2.2.1).bind fun bt487=>(some (bt487.1,bt487.2.1,bt487.2.2.1,bt487.2.2.2,0))) else (some ((⟨#[]⟩:ByteArray),(⟨#[]⟩:ByteArray),false,([]:List (S26)),4)))) else (some ((⟨#[]⟩:ByteArray),(⟨#[]⟩:ByteArray),false,([]:List (S26)),1)))=some (r1,r2,r3,r4,r5):=H
 have A3:=A0_ A30
 clear A30
 by_cases c4:t478=true
 ·subst c4
  have H1:((impl_at.f k a0_0 a0_1 a0_2 l0_3 l1).bind fun bt479=>(if bt479.2.2.2.2=true then ((impl_copyTree.f k bt479.1 bt479.2.1 bt479.2.2.1 bt479.2.2.2.1).bind fun bt487=>(some (bt487.1,bt487.2.1,bt487.2.2.1,bt487.2.2.2,0))) else (some ((⟨#[]⟩:ByteArray),(⟨#[]⟩:ByteArray),false,([]:List (S26)),4))))=some (r1,r2,r3,r4,r5):=by rw [if_pos rfl] at H;exact H
  clear H
  have H:=H1
  clear H1
  replace H:=Option.bind_eq_some_iff.mp H
  obtain ⟨⟨t479,t480,t481,t482,t485⟩,A50,H⟩:=H
  replace H:(if t485=true then ((impl_copyTree.f k t479 t480 t481 t482).bind fun bt487=>(some (bt487.1,bt487.2.1,bt487.2.2.1,bt487.2.2.2,0))) else (some ((⟨#[]⟩:ByteArray),(⟨#[]⟩:ByteArray),false,([]:List (S26)),4)))=some (r1,r2,r3,r4,r5):=H
  have A5:=A0_ A50
  clear A50
  by_cases c6:t485=true
  ·subst c6
   have H1:((impl_copyTree.f k t479 t480 t481 t482).bind fun bt487=>(some (bt487.1,bt487.2.1,bt487.2.2.1,bt487.2.2.2,0)))=some (r1,r2,r3,r4,r5):=by rw [if_pos rfl] at H;exact H
   clear H
   have H:=H1
   clear H1
   replace H:=Option.bind_eq_some_iff.mp H
   obtain ⟨⟨t487,t488,t489,t490⟩,A70,H⟩:=H
   replace H:(some (t487,t488,t489,t490,0))=some (r1,r2,r3,r4,r5):=H
   have A7:=A0_ A70
   clear A70
   simp only [Option.some.injEq,Prod.mk.injEq] at H
   obtain ⟨rfl,rfl,rfl,rfl,rfl⟩:=H
   go_enter Try.func13,Try.ntmps13
   go_wp2_with (first|((with_reducible refine gate_dst (N:=2) rfl ?_);refine box_event ?hg (N:=2) ?hd (cs:= #[.string a0_0, .string a0_1, .bool a0_2, .slice A0_3 l0_3.length c0_3]) (t:=26) ?hr ?_;(case hd=>rfl);(case hg=>rfl);(case hr=>first|(go_simp;done)|(go_simp;rfl));intro gb476 hg w8 hbox hb;have BK476:=A0_ (hbox);have GW476:=A0_ ((by rw [hg];exact (below_size HB.out):w.heap.size≤gb476));have GE476:=A0_ ((by rw [hg];exact (below_size HB.out):w.heap.size≤gb476));replace HB:=A0_ (below_step HB.out hb);clear hb hbox hg)|((with_reducible refine gate_dst (N:=4) rfl ?_);refine box_event ?hg (N:=4) ?hd (cs:= #[.string (⟨#[]⟩:ByteArray), .string (⟨#[]⟩:ByteArray), .bool false, .slice none 0 0]) (t:=26) ?hr ?_;(case hd=>rfl);(case hg=>rfl);(case hr=>first|(go_simp;done)|(go_simp;rfl));intro gb477 hg w9 hbox hb;have BK477:=A0_ (hbox);have GW477:=A0_ ((by rw [hg];exact (below_size HB.out):w.heap.size≤gb477));have GE477:=A0_ ((by rw [hg];exact (below_size HB.out):w.heap.size≤gb477));replace HB:=A0_ (below_step HB.out hb);have NB476_477:=A0_ ((by rw [hg];exact Nat.ne_of_lt (blk_lt BK476.out):gb476≠gb477));have NB477_476:=A0_ ((by rw [hg];exact Nat.ne_of_gt (blk_lt BK476.out):gb477≠gb476));replace BK476:=A0_ (blk_below BK476.out hb);clear hb hbox hg;have hnb10:=NB476_477.out;have hnc10:=NB477_476.out;obtain ⟨hcz11_0,hcz11_1,hcz11_2,hcz11_3⟩:=bc4_ BK476.out;obtain ⟨hfz11_0,hfz11_1,hfz11_2,hfz11_3⟩:=bf4_ BK476.out)|((with_reducible refine gate_callee (f:=45) rfl ?_);refine goesL_ (some 9) rfl rfl Try.func45 (by kernel_rfl) rfl #[.agg #[.string a0_0, .string a0_1, .bool a0_2, .slice A0_3 l0_3.length c0_3]] rfl (by (try simp only [List.map_toArray,List.map_cons,List.map_nil]);first|done|rfl|(simp only [List.length_drop,List.length_take];rfl)) ?_;(with_reducible refine (impl_TreeOK.calls k a0_0 a0_1 a0_2 _ _ l0_3 true _ ?side1 ?side2 A3.out).mono ?_);(case side1=>repeat (first|exact (Kd.C_below HR0_3.out HB.out)|(with_reducible refine Kd.C_alloc ?_ _)|(with_reducible refine Kd.C_drewN ?_ _)|(with_reducible refine Kd.C_drew ?_)));(case side2=>exact HC0_3.out);rintro e w12 ⟨rfl,hb⟩;refine ⟨_,rfl, ?_⟩;replace BK476:=A0_ (blk_below BK476.out hb);replace BK477:=A0_ (blk_below BK477.out hb);replace HB:=A0_ (below_step HB.out hb);(try clear hb);(try clear hb2);(try clear hk);(try clear hi);obtain ⟨hcz13_0,hcz13_1,hcz13_2,hcz13_3⟩:=bc4_ BK476.out;obtain ⟨hfz13_0,hfz13_1,hfz13_2,hfz13_3⟩:=bf4_ BK476.out)|((with_reducible refine gate_callee (f:=46) rfl ?_);refine goesL_ (some 15) rfl rfl Try.func46 (by kernel_rfl) rfl #[.agg #[.string a0_0, .string a0_1, .bool a0_2, .slice A0_3 l0_3.length c0_3], .slice A1 l1.length c1] rfl (by (try simp only [List.map_toArray,List.map_cons,List.map_nil]);first|done|rfl|(simp only [List.length_drop,List.length_take];rfl)) ?_;(with_reducible refine (impl_at.calls k a0_0 a0_1 a0_2 (fun k_=>k_ < w.heap.size) _ _ l0_3 _ _ l1 t479 t480 t481 t482 true _ ?side1 ?side2 ?side3 A5.out).mono ?_);(case side1=>exact Kd.V_mk HC0_3.out (Kd.F_below (Kd.C_F k26_heap HR0_3.out) HB.out));(case side2=>repeat (first|exact (Kd.C_below HR1.out HB.out)|(with_reducible refine Kd.C_alloc ?_ _)|(with_reducible refine Kd.C_drewN ?_ _)|(with_reducible refine Kd.C_drew ?_)));(case side3=>exact HC1.out);rintro e w14 ⟨v483,rfl,ho0,hb⟩;refine ⟨_,rfl, ?_⟩;have HO484:=A0_ (Kd.V_lower (Kd.V_mono (ok':=fun k_=>k_≠gb476∧k_≠gb477) ho0 (fun k_ hk_=>⟨Or.elim hk_ (fun hs_=>fun e_=>Nat.not_le.2 hs_ (by rw [e_];exact GW476.out)) (fun hn_=>(Kd.freshB BK476.out k_ hn_)),Or.elim hk_ (fun hs_=>fun e_=>Nat.not_le.2 hs_ (by rw [e_];exact GW477.out)) (fun hn_=>(Kd.freshB BK477.out k_ hn_))⟩)) (below_size HB.out));replace BK476:=A0_ (blk_below BK476.out hb);replace BK477:=A0_ (blk_below BK477.out hb);replace HB:=A0_ (below_step HB.out hb);(try clear hb);(try clear hb2);(try clear hk);(try clear hi);(try clear ho0))|((with_reducible refine gate_dst (N:=6) rfl ?_);refine box_event ?hg (N:=6) ?hd (cs:= #[.string (⟨#[]⟩:ByteArray), .string (⟨#[]⟩:ByteArray), .bool false, .slice none 0 0]) (t:=26) ?hr ?_;(case hd=>rfl);(case hg=>rfl);(case hr=>first|(go_simp;done)|(go_simp;rfl));intro gb486 hg w15 hbox hb;replace HO484:=A0_ (Kd.V_below (Kd.V_elderB HO484.out gb486 (Nat.le_of_eq hg.symm)) hb);have BK486:=A0_ (hbox);have GW486:=A0_ ((by rw [hg];exact (below_size HB.out):w.heap.size≤gb486));have GE486:=A0_ ((by rw [hg];exact (below_size HB.out):w.heap.size≤gb486));replace HB:=A0_ (below_step HB.out hb);have NB476_486:=A0_ ((by rw [hg];exact Nat.ne_of_lt (blk_lt BK476.out):gb476≠gb486));have NB486_476:=A0_ ((by rw [hg];exact Nat.ne_of_gt (blk_lt BK476.out):gb486≠gb476));replace BK476:=A0_ (blk_below BK476.out hb);have NB477_486:=A0_ ((by rw [hg];exact Nat.ne_of_lt (blk_lt BK477.out):gb477≠gb486));have NB486_477:=A0_ ((by rw [hg];exact Nat.ne_of_gt (blk_lt BK477.out):gb486≠gb477));replace BK477:=A0_ (blk_below BK477.out hb);clear hb hbox hg;have hnb16:=NB486_476.out;have hnc16:=NB476_486.out;have hnb17:=NB486_477.out;have hnc17:=NB477_486.out;obtain ⟨hcz18_0,hcz18_1,hcz18_2,hcz18_3⟩:=bc4_ BK486.out;obtain ⟨hfz18_0,hfz18_1,hfz18_2,hfz18_3⟩:=bf4_ BK486.out;obtain ⟨Ao19,co19,eo19⟩:=Kd.V_slice HO484.out;subst eo19)|((with_reducible refine gate_callee (f:=48) rfl ?_);refine goesL_ (some 22) rfl rfl Try.func48 (by kernel_rfl) rfl #[.agg #[.string t479, .string t480, .bool t481, .slice Ao19 t482.length co19]] rfl (by (try simp only [List.map_toArray,List.map_cons,List.map_nil]);first|done|rfl|(simp only [List.length_drop,List.length_take];rfl)) ?_;(with_reducible refine (impl_copyTree.calls k t479 t480 t481 _ _ t482 t487 t488 t489 t490 _ ?side1 ?side2 A7.out).mono ?_);(case side1=>refine (Kd.V_reads' (e:=26) (base:=w.heap.size) (ok:=fun k_=>((k_≠gb476∧k_≠gb477)∧k_≠gb486)) (n:=t482.length) (c:=co19) ?_).2.2;exact (Kd.V_mono (Kd.V_far (p:=⟨gb486,3,none⟩) (Kd.V_far (p:=⟨gb486,2,none⟩) (Kd.V_far (p:=⟨gb486,1,none⟩) (Kd.V_far (p:=⟨gb486,0,none⟩) (Kd.V_mono HO484.out (fun k_ hk=>(⟨hk,hk.2⟩:_∧k_≠gb486))) (fun _ hk=>hk.2) (.string t479)) (fun _ hk=>hk.2) (.string t480)) (fun _ hk=>hk.2) (.bool t481)) (fun _ hk=>hk.2) (.slice Ao19 t482.length co19)) (fun _ h_=>h_.1)));(case side2=>exact (Kd.V_reads' HO484.out).2.1);rintro e w20 ⟨v491,rfl,ho0,hb⟩;refine ⟨_,rfl, ?_⟩;replace HO484:=A0_ (Kd.V_elder' (Kd.V_mono (Kd.V_far (p:=⟨gb486,3,none⟩) (Kd.V_far (p:=⟨gb486,2,none⟩) (Kd.V_far (p:=⟨gb486,1,none⟩) (Kd.V_far (p:=⟨gb486,0,none⟩) (Kd.V_mono HO484.out (fun k_ hk=>(⟨hk,hk.2⟩:_∧k_≠gb486))) (fun _ hk=>hk.2) (.string t479)) (fun _ hk=>hk.2) (.string t480)) (fun _ hk=>hk.2) (.bool t481)) (fun _ hk=>hk.2) (.slice Ao19 t482.length co19)) (fun _ h_=>h_.1)) (Kd.R_base ho0) hb);have HO492:=A0_ (Kd.R_lower (Kd.R_newB (Kd.R_newB (Kd.R_newB ho0 (g:=gb476) (o:= .cells #[.string a0_0, .string a0_1, .bool a0_2, .slice A0_3 l0_3.length c0_3] 26 (0,0)) (by (with_reducible repeat (first|refine blk_drewN ?_ _|refine blk_drew ?_|refine blk_alloc ?_ _));refine blk_far ?_ NB476_486.out _;(with_reducible repeat (first|refine blk_drewN ?_ _|refine blk_drew ?_|refine blk_alloc ?_ _));refine blk_far ?_ NB476_486.out _;(with_reducible repeat (first|refine blk_drewN ?_ _|refine blk_drew ?_|refine blk_alloc ?_ _));refine blk_far ?_ NB476_486.out _;(with_reducible repeat (first|refine blk_drewN ?_ _|refine blk_drew ?_|refine blk_alloc ?_ _));refine blk_far ?_ NB476_486.out _;(with_reducible repeat (first|refine blk_drewN ?_ _|refine blk_drew ?_|refine blk_alloc ?_ _));exact BK476.out)) (g:=gb477) (o:= .cells #[.string (⟨#[]⟩:ByteArray), .string (⟨#[]⟩:ByteArray), .bool false, .slice none 0 0] 26 (0,0)) (by (with_reducible repeat (first|refine blk_drewN ?_ _|refine blk_drew ?_|refine blk_alloc ?_ _));refine blk_far ?_ NB477_486.out _;(with_reducible repeat (first|refine blk_drewN ?_ _|refine blk_drew ?_|refine blk_alloc ?_ _));refine blk_far ?_ NB477_486.out _;(with_reducible repeat (first|refine blk_drewN ?_ _|refine blk_drew ?_|refine blk_alloc ?_ _));refine blk_far ?_ NB477_486.out _;(with_reducible repeat (first|refine blk_drewN ?_ _|refine blk_drew ?_|refine blk_alloc ?_ _));refine blk_far ?_ NB477_486.out _;(with_reducible repeat (first|refine blk_drewN ?_ _|refine blk_drew ?_|refine blk_alloc ?_ _));exact BK477.out)) (g:=gb486) (o:= .cells #[.string t479, .string t480, .bool t481, .slice Ao19 t482.length co19] 26 (0,0)) (by (with_reducible repeat (first|refine blk_drewN ?_ _|refine blk_drew ?_|refine blk_alloc ?_ _));refine blk_put (cs:= #[.string t479, .string t480, .bool t481, .slice none 0 0]) ?_ 3 _ rfl;(with_reducible repeat (first|refine blk_drewN ?_ _|refine blk_drew ?_|refine blk_alloc ?_ _));refine blk_put (cs:= #[.string t479, .string t480, .bool false, .slice none 0 0]) ?_ 2 _ rfl;(with_reducible repeat (first|refine blk_drewN ?_ _|refine blk_drew ?_|refine blk_alloc ?_ _));refine blk_put (cs:= #[.string t479, .string (⟨#[]⟩:ByteArray), .bool false, .slice none 0 0]) ?_ 1 _ rfl;(with_reducible repeat (first|refine blk_drewN ?_ _|refine blk_drew ?_|refine blk_alloc ?_ _));refine blk_put (cs:= #[.string (⟨#[]⟩:ByteArray), .string (⟨#[]⟩:ByteArray), .bool false, .slice none 0 0]) ?_ 0 _ rfl;(with_reducible repeat (first|refine blk_drewN ?_ _|refine blk_drew ?_|refine blk_alloc ?_ _));exact BK486.out)) (below_size (by repeat (first|(with_reducible first|exact HB.out|apply below_alloc|apply pw_below_drewN|apply below_drew1|refine below_set ?_ GE476.out|refine below_set ?_ GE477.out|refine below_set ?_ GE486.out)|exact HB.out))));replace BK476:=A0_ (blk_below (g:=gb476) (o:= .cells #[.string a0_0, .string a0_1, .bool a0_2, .slice A0_3 l0_3.length c0_3] 26 (0,0)) (by (with_reducible repeat (first|refine blk_drewN ?_ _|refine blk_drew ?_|refine blk_alloc ?_ _));refine blk_far ?_ NB476_486.out _;(with_reducible repeat (first|refine blk_drewN ?_ _|refine blk_drew ?_|refine blk_alloc ?_ _));refine blk_far ?_ NB476_486.out _;(with_reducible repeat (first|refine blk_drewN ?_ _|refine blk_drew ?_|refine blk_alloc ?_ _));refine blk_far ?_ NB476_486.out _;(with_reducible repeat (first|refine blk_drewN ?_ _|refine blk_drew ?_|refine blk_alloc ?_ _));refine blk_far ?_ NB476_486.out _;(with_reducible repeat (first|refine blk_drewN ?_ _|refine blk_drew ?_|refine blk_alloc ?_ _));exact BK476.out) hb);replace BK477:=A0_ (blk_below (g:=gb477) (o:= .cells #[.string (⟨#[]⟩:ByteArray), .string (⟨#[]⟩:ByteArray), .bool false, .slice none 0 0] 26 (0,0)) (by (with_reducible repeat (first|refine blk_drewN ?_ _|refine blk_drew ?_|refine blk_alloc ?_ _));refine blk_far ?_ NB477_486.out _;(with_reducible repeat (first|refine blk_drewN ?_ _|refine blk_drew ?_|refine blk_alloc ?_ _));refine blk_far ?_ NB477_486.out _;(with_reducible repeat (first|refine blk_drewN ?_ _|refine blk_drew ?_|refine blk_alloc ?_ _));refine blk_far ?_ NB477_486.out _;(with_reducible repeat (first|refine blk_drewN ?_ _|refine blk_drew ?_|refine blk_alloc ?_ _));refine blk_far ?_ NB477_486.out _;(with_reducible repeat (first|refine blk_drewN ?_ _|refine blk_drew ?_|refine blk_alloc ?_ _));exact BK477.out) hb);replace BK486:=A0_ (blk_below (g:=gb486) (o:= .cells #[.string t479, .string t480, .bool t481, .slice Ao19 t482.length co19] 26 (0,0)) (by (with_reducible repeat (first|refine blk_drewN ?_ _|refine blk_drew ?_|refine blk_alloc ?_ _));refine blk_put (cs:= #[.string t479, .string t480, .bool t481, .slice none 0 0]) ?_ 3 _ rfl;(with_reducible repeat (first|refine blk_drewN ?_ _|refine blk_drew ?_|refine blk_alloc ?_ _));refine blk_put (cs:= #[.string t479, .string t480, .bool false, .slice none 0 0]) ?_ 2 _ rfl;(with_reducible repeat (first|refine blk_drewN ?_ _|refine blk_drew ?_|refine blk_alloc ?_ _));refine blk_put (cs:= #[.string t479, .string (⟨#[]⟩:ByteArray), .bool false, .slice none 0 0]) ?_ 1 _ rfl;(with_reducible repeat (first|refine blk_drewN ?_ _|refine blk_drew ?_|refine blk_alloc ?_ _));refine blk_put (cs:= #[.string (⟨#[]⟩:ByteArray), .string (⟨#[]⟩:ByteArray), .bool false, .slice none 0 0]) ?_ 0 _ rfl;(with_reducible repeat (first|refine blk_drewN ?_ _|refine blk_drew ?_|refine blk_alloc ?_ _));exact BK486.out) hb);replace HB:=A0_ (below_step (by repeat (first|(with_reducible first|exact HB.out|apply below_alloc|apply pw_below_drewN|apply below_drew1|refine below_set ?_ GE476.out|refine below_set ?_ GE477.out|refine below_set ?_ GE486.out)|exact HB.out)) hb);(try clear hb);(try clear hb2);(try clear hk);(try clear hi);(try clear ho0);obtain ⟨hcz21_0,hcz21_1,hcz21_2,hcz21_3⟩:=bc4_ BK477.out;obtain ⟨hfz21_0,hfz21_1,hfz21_2,hfz21_3⟩:=bf4_ BK477.out;obtain ⟨Ao22,co22,eo22⟩:=Kd.R_slice HO492.out;subst eo22))
   refine bodyPost_ret (results_ct rfl _ _ gb477 26 #[.string t487, .string t488, .bool t489, .slice Ao22 t490.length co22] (0,0) _ rfl (by (with_reducible repeat (first|refine blk_drewN ?_ _|refine blk_drew ?_|refine blk_alloc ?_ _));refine blk_put (cs:= #[.string t487, .string t488, .bool t489, .slice none 0 0]) ?_ 3 _ rfl;(with_reducible repeat (first|refine blk_drewN ?_ _|refine blk_drew ?_|refine blk_alloc ?_ _));refine blk_put (cs:= #[.string t487, .string t488, .bool false, .slice none 0 0]) ?_ 2 _ rfl;(with_reducible repeat (first|refine blk_drewN ?_ _|refine blk_drew ?_|refine blk_alloc ?_ _));refine blk_put (cs:= #[.string t487, .string (⟨#[]⟩:ByteArray), .bool false, .slice none 0 0]) ?_ 1 _ rfl;(with_reducible repeat (first|refine blk_drewN ?_ _|refine blk_drew ?_|refine blk_alloc ?_ _));refine blk_put (cs:= #[.string (⟨#[]⟩:ByteArray), .string (⟨#[]⟩:ByteArray), .bool false, .slice none 0 0]) ?_ 0 _ rfl;(with_reducible repeat (first|refine blk_drewN ?_ _|refine blk_drew ?_|refine blk_alloc ?_ _));exact BK477.out) Try.underlying26 rfl (by kernel_rfl)) rfl ?_
   exact ⟨_,by first|rfl|(simp [errW_none,errW_some] <;> rfl)|(simp [*,errW_none,errW_some] <;> rfl),by (with_reducible repeat (first|apply Kd.R_alloc|apply Kd.R_drewN|apply Kd.R_drew));exact Kd.R_mono (Kd.R_far (p:=⟨gb477,3,none⟩) (Kd.R_far (p:=⟨gb477,2,none⟩) (Kd.R_far (p:=⟨gb477,1,none⟩) (Kd.R_far (p:=⟨gb477,0,none⟩) (Kd.R_mono HO492.out (fun k_ hk=>(⟨hk,hk.1.2⟩:_∧k_≠gb477))) (fun _ hk=>hk.2) (.string t487)) (fun _ hk=>hk.2) (.string t488)) (fun _ hk=>hk.2) (.bool t489)) (fun _ hk=>hk.2) (.slice Ao22 t490.length co22)) (fun _ hk=>trivial),by repeat (first|(with_reducible first|exact HB.out|apply below_alloc|apply pw_below_drewN|apply below_drew1|refine below_set ?_ GE476.out|refine below_set ?_ GE477.out|refine below_set ?_ GE486.out)|exact HB.out)⟩
  ·replace c6:=Bool.eq_false_iff.mpr c6
   subst c6
   have H1:(some ((⟨#[]⟩:ByteArray),(⟨#[]⟩:ByteArray),false,([]:List (S26)),4))=some (r1,r2,r3,r4,r5):=by rw [if_neg (show ¬ (false=true) by decide)] at H;exact H
   clear H
   have H:=H1
   clear H1
   simp only [Option.some.injEq,Prod.mk.injEq] at H
   obtain ⟨rfl,rfl,rfl,rfl,rfl⟩:=H
   go_enter Try.func13,Try.ntmps13
   go_wp2_with (first|((with_reducible refine gate_dst (N:=2) rfl ?_);refine box_event ?hg (N:=2) ?hd (cs:= #[.string a0_0, .string a0_1, .bool a0_2, .slice A0_3 l0_3.length c0_3]) (t:=26) ?hr ?_;(case hd=>rfl);(case hg=>rfl);(case hr=>first|(go_simp;done)|(go_simp;rfl));intro gb476 hg w23 hbox hb;have BK476:=A0_ (hbox);have GW476:=A0_ ((by rw [hg];exact (below_size HB.out):w.heap.size≤gb476));have GE476:=A0_ ((by rw [hg];exact (below_size HB.out):w.heap.size≤gb476));replace HB:=A0_ (below_step HB.out hb);clear hb hbox hg)|((with_reducible refine gate_dst (N:=4) rfl ?_);refine box_event ?hg (N:=4) ?hd (cs:= #[.string (⟨#[]⟩:ByteArray), .string (⟨#[]⟩:ByteArray), .bool false, .slice none 0 0]) (t:=26) ?hr ?_;(case hd=>rfl);(case hg=>rfl);(case hr=>first|(go_simp;done)|(go_simp;rfl));intro gb477 hg w24 hbox hb;have BK477:=A0_ (hbox);have GW477:=A0_ ((by rw [hg];exact (below_size HB.out):w.heap.size≤gb477));have GE477:=A0_ ((by rw [hg];exact (below_size HB.out):w.heap.size≤gb477));replace HB:=A0_ (below_step HB.out hb);have NB476_477:=A0_ ((by rw [hg];exact Nat.ne_of_lt (blk_lt BK476.out):gb476≠gb477));have NB477_476:=A0_ ((by rw [hg];exact Nat.ne_of_gt (blk_lt BK476.out):gb477≠gb476));replace BK476:=A0_ (blk_below BK476.out hb);clear hb hbox hg;have hnb25:=NB476_477.out;have hnc25:=NB477_476.out;obtain ⟨hcz26_0,hcz26_1,hcz26_2,hcz26_3⟩:=bc4_ BK476.out;obtain ⟨hfz26_0,hfz26_1,hfz26_2,hfz26_3⟩:=bf4_ BK476.out)|((with_reducible refine gate_callee (f:=45) rfl ?_);refine goesL_ (some 9) rfl rfl Try.func45 (by kernel_rfl) rfl #[.agg #[.string a0_0, .string a0_1, .bool a0_2, .slice A0_3 l0_3.length c0_3]] rfl (by (try simp only [List.map_toArray,List.map_cons,List.map_nil]);first|done|rfl|(simp only [List.length_drop,List.length_take];rfl)) ?_;(with_reducible refine (impl_TreeOK.calls k a0_0 a0_1 a0_2 _ _ l0_3 true _ ?side1 ?side2 A3.out).mono ?_);(case side1=>repeat (first|exact (Kd.C_below HR0_3.out HB.out)|(with_reducible refine Kd.C_alloc ?_ _)|(with_reducible refine Kd.C_drewN ?_ _)|(with_reducible refine Kd.C_drew ?_)));(case side2=>exact HC0_3.out);rintro e w27 ⟨rfl,hb⟩;refine ⟨_,rfl, ?_⟩;replace BK476:=A0_ (blk_below BK476.out hb);replace BK477:=A0_ (blk_below BK477.out hb);replace HB:=A0_ (below_step HB.out hb);(try clear hb);(try clear hb2);(try clear hk);(try clear hi);obtain ⟨hcz28_0,hcz28_1,hcz28_2,hcz28_3⟩:=bc4_ BK476.out;obtain ⟨hfz28_0,hfz28_1,hfz28_2,hfz28_3⟩:=bf4_ BK476.out)|((with_reducible refine gate_callee (f:=46) rfl ?_);refine goesL_ (some 15) rfl rfl Try.func46 (by kernel_rfl) rfl #[.agg #[.string a0_0, .string a0_1, .bool a0_2, .slice A0_3 l0_3.length c0_3], .slice A1 l1.length c1] rfl (by (try simp only [List.map_toArray,List.map_cons,List.map_nil]);first|done|rfl|(simp only [List.length_drop,List.length_take];rfl)) ?_;(with_reducible refine (impl_at.calls k a0_0 a0_1 a0_2 (fun k_=>k_ < w.heap.size) _ _ l0_3 _ _ l1 t479 t480 t481 t482 false _ ?side1 ?side2 ?side3 A5.out).mono ?_);(case side1=>exact Kd.V_mk HC0_3.out (Kd.F_below (Kd.C_F k26_heap HR0_3.out) HB.out));(case side2=>repeat (first|exact (Kd.C_below HR1.out HB.out)|(with_reducible refine Kd.C_alloc ?_ _)|(with_reducible refine Kd.C_drewN ?_ _)|(with_reducible refine Kd.C_drew ?_)));(case side3=>exact HC1.out);rintro e w29 ⟨v483,rfl,ho0,hb⟩;refine ⟨_,rfl, ?_⟩;have HO484:=A0_ (Kd.V_lower (Kd.V_mono (ok':=fun k_=>k_≠gb476∧k_≠gb477) ho0 (fun k_ hk_=>⟨Or.elim hk_ (fun hs_=>fun e_=>Nat.not_le.2 hs_ (by rw [e_];exact GW476.out)) (fun hn_=>(Kd.freshB BK476.out k_ hn_)),Or.elim hk_ (fun hs_=>fun e_=>Nat.not_le.2 hs_ (by rw [e_];exact GW477.out)) (fun hn_=>(Kd.freshB BK477.out k_ hn_))⟩)) (below_size HB.out));replace BK476:=A0_ (blk_below BK476.out hb);replace BK477:=A0_ (blk_below BK477.out hb);replace HB:=A0_ (below_step HB.out hb);(try clear hb);(try clear hb2);(try clear hk);(try clear hi);(try clear ho0))|((with_reducible refine gate_dst (N:=6) rfl ?_);refine box_event ?hg (N:=6) ?hd (cs:= #[.string (⟨#[]⟩:ByteArray), .string (⟨#[]⟩:ByteArray), .bool false, .slice none 0 0]) (t:=26) ?hr ?_;(case hd=>rfl);(case hg=>rfl);(case hr=>first|(go_simp;done)|(go_simp;rfl));intro gb486 hg w30 hbox hb;replace HO484:=A0_ (Kd.V_below (Kd.V_elderB HO484.out gb486 (Nat.le_of_eq hg.symm)) hb);have BK486:=A0_ (hbox);have GW486:=A0_ ((by rw [hg];exact (below_size HB.out):w.heap.size≤gb486));have GE486:=A0_ ((by rw [hg];exact (below_size HB.out):w.heap.size≤gb486));replace HB:=A0_ (below_step HB.out hb);have NB476_486:=A0_ ((by rw [hg];exact Nat.ne_of_lt (blk_lt BK476.out):gb476≠gb486));have NB486_476:=A0_ ((by rw [hg];exact Nat.ne_of_gt (blk_lt BK476.out):gb486≠gb476));replace BK476:=A0_ (blk_below BK476.out hb);have NB477_486:=A0_ ((by rw [hg];exact Nat.ne_of_lt (blk_lt BK477.out):gb477≠gb486));have NB486_477:=A0_ ((by rw [hg];exact Nat.ne_of_gt (blk_lt BK477.out):gb486≠gb477));replace BK477:=A0_ (blk_below BK477.out hb);clear hb hbox hg;have hnb31:=NB486_476.out;have hnc31:=NB476_486.out;have hnb32:=NB486_477.out;have hnc32:=NB477_486.out;obtain ⟨hcz33_0,hcz33_1,hcz33_2,hcz33_3⟩:=bc4_ BK486.out;obtain ⟨hfz33_0,hfz33_1,hfz33_2,hfz33_3⟩:=bf4_ BK486.out;obtain ⟨Ao34,co34,eo34⟩:=Kd.V_slice HO484.out;subst eo34;obtain ⟨hcz35_0,hcz35_1,hcz35_2,hcz35_3⟩:=bc4_ BK477.out;obtain ⟨hfz35_0,hfz35_1,hfz35_2,hfz35_3⟩:=bf4_ BK477.out))
   refine bodyPost_ret (results_ct rfl _ _ gb477 26 #[.string (⟨#[]⟩:ByteArray), .string (⟨#[]⟩:ByteArray), .bool false, .slice none 0 0] (0,0) _ rfl (by (with_reducible repeat (first|refine blk_drewN ?_ _|refine blk_drew ?_|refine blk_alloc ?_ _));refine blk_put (cs:= #[.string (⟨#[]⟩:ByteArray), .string (⟨#[]⟩:ByteArray), .bool false, .slice none 0 0]) ?_ 3 _ rfl;(with_reducible repeat (first|refine blk_drewN ?_ _|refine blk_drew ?_|refine blk_alloc ?_ _));refine blk_put (cs:= #[.string (⟨#[]⟩:ByteArray), .string (⟨#[]⟩:ByteArray), .bool false, .slice none 0 0]) ?_ 2 _ rfl;(with_reducible repeat (first|refine blk_drewN ?_ _|refine blk_drew ?_|refine blk_alloc ?_ _));refine blk_put (cs:= #[.string (⟨#[]⟩:ByteArray), .string (⟨#[]⟩:ByteArray), .bool false, .slice none 0 0]) ?_ 1 _ rfl;(with_reducible repeat (first|refine blk_drewN ?_ _|refine blk_drew ?_|refine blk_alloc ?_ _));refine blk_put (cs:= #[.string (⟨#[]⟩:ByteArray), .string (⟨#[]⟩:ByteArray), .bool false, .slice none 0 0]) ?_ 0 _ rfl;(with_reducible repeat (first|refine blk_drewN ?_ _|refine blk_drew ?_|refine blk_alloc ?_ _));refine blk_far ?_ NB477_486.out _;(with_reducible repeat (first|refine blk_drewN ?_ _|refine blk_drew ?_|refine blk_alloc ?_ _));refine blk_far ?_ NB477_486.out _;(with_reducible repeat (first|refine blk_drewN ?_ _|refine blk_drew ?_|refine blk_alloc ?_ _));refine blk_far ?_ NB477_486.out _;(with_reducible repeat (first|refine blk_drewN ?_ _|refine blk_drew ?_|refine blk_alloc ?_ _));refine blk_far ?_ NB477_486.out _;(with_reducible repeat (first|refine blk_drewN ?_ _|refine blk_drew ?_|refine blk_alloc ?_ _));exact BK477.out) Try.underlying26 rfl (by kernel_rfl)) rfl ?_
   exact ⟨_,by first|rfl|(simp [errW_none,errW_some] <;> rfl)|(simp [*,errW_none,errW_some] <;> rfl),by first|exact Kd.R_nil _ _ _ _ _|exact Kd.N_nil _ _ _ _ _|exact Kd.V_nil _ _ _ _ _|exact Kd.Q_nil _ _ _ _ _|exact Kd.S_nil _ _ _ _ _,by repeat (first|(with_reducible first|exact HB.out|apply below_alloc|apply pw_below_drewN|apply below_drew1|refine below_set ?_ GE476.out|refine below_set ?_ GE477.out|refine below_set ?_ GE486.out)|exact HB.out)⟩
 ·replace c4:=Bool.eq_false_iff.mpr c4
  subst c4
  have H1:(some ((⟨#[]⟩:ByteArray),(⟨#[]⟩:ByteArray),false,([]:List (S26)),1))=some (r1,r2,r3,r4,r5):=by rw [if_neg (show ¬ (false=true) by decide)] at H;exact H
  clear H
  have H:=H1
  clear H1
  simp only [Option.some.injEq,Prod.mk.injEq] at H
  obtain ⟨rfl,rfl,rfl,rfl,rfl⟩:=H
  go_enter Try.func13,Try.ntmps13
  go_wp2_with (first|((with_reducible refine gate_dst (N:=2) rfl ?_);refine box_event ?hg (N:=2) ?hd (cs:= #[.string a0_0, .string a0_1, .bool a0_2, .slice A0_3 l0_3.length c0_3]) (t:=26) ?hr ?_;(case hd=>rfl);(case hg=>rfl);(case hr=>first|(go_simp;done)|(go_simp;rfl));intro gb476 hg w36 hbox hb;have BK476:=A0_ (hbox);have GW476:=A0_ ((by rw [hg];exact (below_size HB.out):w.heap.size≤gb476));have GE476:=A0_ ((by rw [hg];exact (below_size HB.out):w.heap.size≤gb476));replace HB:=A0_ (below_step HB.out hb);clear hb hbox hg)|((with_reducible refine gate_dst (N:=4) rfl ?_);refine box_event ?hg (N:=4) ?hd (cs:= #[.string (⟨#[]⟩:ByteArray), .string (⟨#[]⟩:ByteArray), .bool false, .slice none 0 0]) (t:=26) ?hr ?_;(case hd=>rfl);(case hg=>rfl);(case hr=>first|(go_simp;done)|(go_simp;rfl));intro gb477 hg w37 hbox hb;have BK477:=A0_ (hbox);have GW477:=A0_ ((by rw [hg];exact (below_size HB.out):w.heap.size≤gb477));have GE477:=A0_ ((by rw [hg];exact (below_size HB.out):w.heap.size≤gb477));replace HB:=A0_ (below_step HB.out hb);have NB476_477:=A0_ ((by rw [hg];exact Nat.ne_of_lt (blk_lt BK476.out):gb476≠gb477));have NB477_476:=A0_ ((by rw [hg];exact Nat.ne_of_gt (blk_lt BK476.out):gb477≠gb476));replace BK476:=A0_ (blk_below BK476.out hb);clear hb hbox hg;have hnb38:=NB476_477.out;have hnc38:=NB477_476.out;obtain ⟨hcz39_0,hcz39_1,hcz39_2,hcz39_3⟩:=bc4_ BK476.out;obtain ⟨hfz39_0,hfz39_1,hfz39_2,hfz39_3⟩:=bf4_ BK476.out)|((with_reducible refine gate_callee (f:=45) rfl ?_);refine goesL_ (some 9) rfl rfl Try.func45 (by kernel_rfl) rfl #[.agg #[.string a0_0, .string a0_1, .bool a0_2, .slice A0_3 l0_3.length c0_3]] rfl (by (try simp only [List.map_toArray,List.map_cons,List.map_nil]);first|done|rfl|(simp only [List.length_drop,List.length_take];rfl)) ?_;(with_reducible refine (impl_TreeOK.calls k a0_0 a0_1 a0_2 _ _ l0_3 false _ ?side1 ?side2 A3.out).mono ?_);(case side1=>repeat (first|exact (Kd.C_below HR0_3.out HB.out)|(with_reducible refine Kd.C_alloc ?_ _)|(with_reducible refine Kd.C_drewN ?_ _)|(with_reducible refine Kd.C_drew ?_)));(case side2=>exact HC0_3.out);rintro e w40 ⟨rfl,hb⟩;refine ⟨_,rfl, ?_⟩;replace BK476:=A0_ (blk_below BK476.out hb);replace BK477:=A0_ (blk_below BK477.out hb);replace HB:=A0_ (below_step HB.out hb);(try clear hb);(try clear hb2);(try clear hk);(try clear hi);obtain ⟨hcz41_0,hcz41_1,hcz41_2,hcz41_3⟩:=bc4_ BK477.out;obtain ⟨hfz41_0,hfz41_1,hfz41_2,hfz41_3⟩:=bf4_ BK477.out))
  refine bodyPost_ret (results_ct rfl _ _ gb477 26 #[.string (⟨#[]⟩:ByteArray), .string (⟨#[]⟩:ByteArray), .bool false, .slice none 0 0] (0,0) _ rfl (by (with_reducible repeat (first|refine blk_drewN ?_ _|refine blk_drew ?_|refine blk_alloc ?_ _));refine blk_put (cs:= #[.string (⟨#[]⟩:ByteArray), .string (⟨#[]⟩:ByteArray), .bool false, .slice none 0 0]) ?_ 3 _ rfl;(with_reducible repeat (first|refine blk_drewN ?_ _|refine blk_drew ?_|refine blk_alloc ?_ _));refine blk_put (cs:= #[.string (⟨#[]⟩:ByteArray), .string (⟨#[]⟩:ByteArray), .bool false, .slice none 0 0]) ?_ 2 _ rfl;(with_reducible repeat (first|refine blk_drewN ?_ _|refine blk_drew ?_|refine blk_alloc ?_ _));refine blk_put (cs:= #[.string (⟨#[]⟩:ByteArray), .string (⟨#[]⟩:ByteArray), .bool false, .slice none 0 0]) ?_ 1 _ rfl;(with_reducible repeat (first|refine blk_drewN ?_ _|refine blk_drew ?_|refine blk_alloc ?_ _));refine blk_put (cs:= #[.string (⟨#[]⟩:ByteArray), .string (⟨#[]⟩:ByteArray), .bool false, .slice none 0 0]) ?_ 0 _ rfl;(with_reducible repeat (first|refine blk_drewN ?_ _|refine blk_drew ?_|refine blk_alloc ?_ _));exact BK477.out) Try.underlying26 rfl (by kernel_rfl)) rfl ?_
  exact ⟨_,by first|rfl|(simp [errW_none,errW_some] <;> rfl)|(simp [*,errW_none,errW_some] <;> rfl),by first|exact Kd.R_nil _ _ _ _ _|exact Kd.N_nil _ _ _ _ _|exact Kd.V_nil _ _ _ _ _|exact Kd.Q_nil _ _ _ _ _|exact Kd.S_nil _ _ _ _ _,by repeat (first|(with_reducible first|exact HB.out|apply below_alloc|apply pw_below_drewN|apply below_drew1|refine below_set ?_ GE476.out|refine below_set ?_ GE477.out)|exact HB.out)⟩
end Go.Proofs.Ytakpkmkjhndpjaa.Q
end
section
namespace Go.Proofs.Ytakpkmkjhndpjaa.Q
open Go.RowKit Go.Shelf Go.Proofs.YtakpkmkjhndpjaaW.PrintWords
set_option linter.unusedVariables false
set_option linter.unusedSimpArgs false
theorem bl_sizeB:(Try.prog.info? 115).map (·.size)=some 2:=by kernel_rfl
theorem bl_infoByte:(Try.prog.info? 5).map (fun i=>(i.zero,i.size,i.bytes))=some (some (.int .u8 0),1,1):=by kernel_rfl
theorem bl_lies:liesAt Try.prog Try.prog.depth 115 (2 / Try.prog.cellsOf 115) 0 115 1=true:=by kernel_rfl
set_option maxHeartbeats 1000000 in
set_option maxRecDepth 100000 in
theorem bl_check_used (b:Nat) (w:World) (h0:w.cell? ⟨b,0,none⟩=some (.pointer (some ⟨b,0,none⟩))):
  Calls Try.prog 119 #[.pointer (some ⟨b,0,none⟩)] w fun e w'=>e= .returned (.tuple #[])∧w'=w:=by
 obtain ⟨j,hj,_⟩:=Option.map_eq_some_iff.1 bl_sizeB
 go_enter Try.func119,Try.ntmps119
 go_wp2
 rw [Lib.run_neq_ptr_same w _ Try.underlying113 hj]
 go_wp2
 go_end0
 exact ⟨rfl,rfl⟩
set_option maxHeartbeats 1000000 in
set_option maxRecDepth 100000 in
theorem bl_check_fresh (b:Nat) (w:World) (h0:w.cell? ⟨b,0,none⟩=some (.pointer none)) (hsh:w.shape? b=some (115,2)) (hfz:w.frozen? ⟨b,0,none⟩=false):
  Calls Try.prog 119 #[.pointer (some ⟨b,0,none⟩)] w fun e w'=>e= .returned (.tuple #[])∧w'=w.setCell ⟨b,0,none⟩ (.pointer (some ⟨b,0,none⟩)):=by
 obtain ⟨j,hj,hjs⟩:=Option.map_eq_some_iff.1 bl_sizeB
 go_enter Try.func119,Try.ntmps119
 go_wp2
 rw [Lib.run_to_unsafe w ⟨b,0,none⟩ Try.underlying113 Try.underlying134 hj (by rw [hjs];decide) hsh (Nat.zero_lt_succ 1)]
 simp only [Result.andThen]
 rw [Oper.upon_value]
 go_wp2
 rw [run_callFunc_extern Try.func122 (by kernel_rfl) (by kernel_rfl) (by kernel_rfl) (e:=Extern.AbiNoEscape.same) (by kernel_rfl)]
 rw [Lib.run_noEscape]
 simp only [Result.andThen]
 rw [Oper.upon_value]
 go_wp2
 rw [Lib.run_from_unsafe w ⟨b,0,none⟩ Try.underlying134 Try.underlying113 hj hsh bl_lies]
 simp only [Result.andThen]
 rw [Oper.upon_value]
 go_wp2
 go_end0
 exact ⟨rfl,rfl⟩
theorem bl_check (B b:Nat) (bs:List Value) (w:World) (h:Lib.IsBuilderF 115 5 B b bs w):
  Calls Try.prog 119 #[.pointer (some ⟨b,0,none⟩)] w fun e w'=>e= .returned (.tuple #[])∧(Lib.BuilderAtF 115 5 B b (.pointer (some ⟨b,0,none⟩)) bs w'∧Below B w w'∧Lib.OthersKept 5 (some b) w w'):=by
 rcases h with h|h
 ·refine (bl_check_fresh b w h.cell0 h.shape h.frozen0).mono ?_
  rintro e w' ⟨rfl,rfl⟩
  exact ⟨rfl,h.used _,(Below.refl B w).setCell (p:=⟨b,0,none⟩) h.1 _,(Lib.OthersKept.refl _ _ w).setCell ⟨b,0,none⟩ rfl _⟩
 ·refine (bl_check_used b w h.cell0).mono ?_
  rintro e w' ⟨rfl,rfl⟩
  exact ⟨rfl,h,Below.refl B _,Lib.OthersKept.refl _ _ _⟩
set_option maxHeartbeats 2000000 in
set_option maxRecDepth 100000 in
theorem bl_byte (B b:Nat) (bs:List Value) (c:Int) (w:World) (h:Lib.IsBuilderF 115 5 B b bs w) (hlen:bs.length + 1≤140737488355328) (hBw:B≤w.heap.size):
  Calls Try.prog 111 #[.pointer (some ⟨b,0,none⟩), .int .u8 c] w fun e w'=>e= .returned .nilIface∧(Lib.BuilderAtF 115 5 B b (.pointer (some ⟨b,0,none⟩)) (bs ++ [.int .u8 c]) w'∧Below B w w'∧Lib.OthersKept 5 (some b) w w'):=by
 obtain ⟨i0,hi,hz0,hz1,hz2⟩:=info_parts bl_infoByte
 go_enter Try.func111,Try.ntmps111
 go_wp2_with (go_at_call 119;refine (bl_check B b bs _ h).mono ?_)
 rintro e w1 ⟨rfl,h1,hb1,hk1⟩
 obtain ⟨hB,v,hbk,hown,hne⟩:=h1
 have c0:w1.cell? ⟨b,0,none⟩=some (.pointer (some ⟨b,0,none⟩)):=by rw [Lib.cell_of_heap hbk];rfl
 have c1:w1.cell? ⟨b,1,none⟩=some v:=by rw [Lib.cell_of_heap hbk];rfl
 go_wp2_with (at_builtin;refine wpList_append_ownF _ rfl _ _ 22 rfl B 5 i0 (.int .u8 0) 1 1 Try.underlying22 hi hz0 hz1 hz2 rfl (by decide) _ _ _ rfl (hown.alloc _) ⟨w1.heap.size,0,none⟩ 1 1 [.int .u8 c] rfl rfl ?c1 ?c2 ?c3 ?c4 ?c5 ?_)
 case c1=>
  intro j u hj
  match j,hj with
  |0,hj=>simp at hj;subst hj;simp [Addr.add]
 case c2=>intro u hu;simp at hu;subst hu;rfl
 case c3=>unfold maxLen;omega
 case c4=>omega
 case c5=>have:=hb1.size;simp;omega
 intro v' w2 hown' hgrow _
 have hlt:b < w1.heap.size:=blk_lt hbk
 have hb2:w2.heap[b]?= some (.cells #[.pointer (some ⟨b,0,none⟩),v] 115 (0,0)):=by
  rw [hgrow.block b (by simp;omega) (fun e=>hne e.symm),Lib.alloc_old w1 _ b hlt]
  exact hbk
 have d0:w2.cell? ⟨b,0,none⟩=some (.pointer (some ⟨b,0,none⟩)):=by rw [Lib.cell_of_heap hb2];rfl
 have d1:w2.cell? ⟨b,1,none⟩=some v:=by rw [Lib.cell_of_heap hb2];rfl
 have f1:w2.frozen? ⟨b,1,none⟩=false:=Lib.frozen_of_heap hb2 1
 obtain ⟨g,cap,rfl⟩: ∃ g cap,v'= .slice (some ⟨g,0,none⟩) (bs.length + 1) cap:=by
  rcases hown'.2 with ⟨_,h0⟩|⟨g,cap,cur,fz,hv,_⟩
  ·omega
  ·exact ⟨g,cap,hv⟩
 go_wp2
 go_ret
 refine ⟨rfl, ?_, ?_,((hk1.alloc _).grown hgrow (Lib.ownsRowF_kind (hown.alloc _))).setCell ⟨b,1,none⟩ rfl _⟩
 ·exact Lib.BuilderAtF.put (T:=115) (e:=5) hB hb2 (bs':=bs ++ [.int .u8 c]) (by simpa using hown') (by decide)
 ·exact ((hb1.alloc (by have:=hb1.size;omega) _).grown hgrow (by have:=hb1.size;simp;omega) (fun k hk=>(hown.lt k hk).1)).setCell (p:=⟨b,1,none⟩) hB _
set_option maxHeartbeats 2000000 in
set_option maxRecDepth 100000 in
theorem bl_str (B b:Nat) (bs:List Value) (s:ByteArray) (w:World) (h:Lib.IsBuilderF 115 5 B b bs w) (hlen:bs.length + s.size≤140737488355328) (hBw:B≤w.heap.size):
  Calls Try.prog 112 #[.pointer (some ⟨b,0,none⟩), .string s] w fun e w'=>e= .returned (.tuple #[.int .i64 s.size, .nilIface])∧(Lib.BuilderAtF 115 5 B b (.pointer (some ⟨b,0,none⟩)) (bs ++ Lib.strCells s) w'∧Below B w w'∧Lib.OthersKept 5 (some b) w w'):=by
 obtain ⟨i0,hi,hz0,hz1,hz2⟩:=info_parts bl_infoByte
 go_enter Try.func112,Try.ntmps112
 go_wp2_with (go_at_call 119;refine (bl_check B b bs _ h).mono ?_)
 rintro e w1 ⟨rfl,h1,hb1,hk1⟩
 obtain ⟨hB,v,hbk,hown,hne⟩:=h1
 have c0:w1.cell? ⟨b,0,none⟩=some (.pointer (some ⟨b,0,none⟩)):=by rw [Lib.cell_of_heap hbk];rfl
 have c1:w1.cell? ⟨b,1,none⟩=some v:=by rw [Lib.cell_of_heap hbk];rfl
 go_wp2_with (at_builtin;refine Lib.wpList_append_own_stringF _ rfl _ _ 22 9 rfl B 5 i0 Try.underlying22 Try.underlying9 hi hz0 hz1 hz2 _ _ _ rfl hown s rfl ?c3 ?c4 ?c5 ?_)
 case c3=>unfold maxLen;omega
 case c4=>omega
 case c5=>have:=hb1.size;omega
 intro v' w2 hown' hgrow _
 have hlt:b < w1.heap.size:=blk_lt hbk
 have hb2:w2.heap[b]?= some (.cells #[.pointer (some ⟨b,0,none⟩),v] 115 (0,0)):=by
  rw [hgrow.block b hlt (fun e=>hne e.symm)]
  exact hbk
 have d0:w2.cell? ⟨b,0,none⟩=some (.pointer (some ⟨b,0,none⟩)):=by rw [Lib.cell_of_heap hb2];rfl
 have d1:w2.cell? ⟨b,1,none⟩=some v:=by rw [Lib.cell_of_heap hb2];rfl
 have f1:w2.frozen? ⟨b,1,none⟩=false:=Lib.frozen_of_heap hb2 1
 obtain ⟨ao,n',cap,rfl⟩: ∃ ao n' cap,v'= .slice ao n' cap:=by
  rcases hown'.2 with ⟨hv,_⟩|⟨g,cap,cur,fz,hv,_⟩
  ·exact ⟨_,_,_,hv⟩
  ·exact ⟨_,_,_,hv⟩
 go_wp2
 go_ret2
 refine ⟨rfl, ?_, ?_,(hk1.grown hgrow (Lib.ownsRowF_kind hown)).setCell ⟨b,1,none⟩ rfl _⟩
 ·exact Lib.BuilderAtF.put (T:=115) (e:=5) hB hb2 (bs':=bs ++ Lib.strCells s) (by simpa [Lib.strCells_length] using hown') (by decide)
 ·exact (hb1.grown hgrow (by have:=hb1.size;omega) (fun k hk=>(hown.lt k hk).1)).setCell (p:=⟨b,1,none⟩) hB _
theorem bl_wb (B b:Nat) (l:List UInt8) (u:UInt8) (c:Int) (hc:c=(u.toNat:Int)) (w:World) (h:Lib.IsBuilderF 115 5 B b (Lib.byteCells l) w) (hlen:l.length + 1≤140737488355328) (hBw:B≤w.heap.size):
  Calls Try.prog 111 #[.pointer (some ⟨b,0,none⟩), .int .u8 c] w fun e w'=>e= .returned .nilIface∧(Lib.IsBuilderF 115 5 B b (Lib.byteCells (l ++ [u])) w'∧Below B w w'∧Lib.OthersKept 5 (some b) w w'):=by
 subst hc
 refine (bl_byte B b (Lib.byteCells l) _ w h (by rw [Lib.byteCells_length];exact hlen) hBw).mono ?_
 rintro e w' ⟨rfl,h1,h2,h3⟩
 exact ⟨rfl, .inr (by simpa [Lib.byteCells] using h1),h2,h3⟩
theorem bl_ws (B b:Nat) (l:List UInt8) (s:ByteArray) (w:World) (h:Lib.IsBuilderF 115 5 B b (Lib.byteCells l) w) (hlen:l.length + s.size≤140737488355328) (hBw:B≤w.heap.size):
  Calls Try.prog 112 #[.pointer (some ⟨b,0,none⟩), .string s] w fun e w'=>e= .returned (.tuple #[.int .i64 s.size, .nilIface])∧(Lib.IsBuilderF 115 5 B b (Lib.byteCells (l ++ s.data.toList)) w'∧Below B w w'∧Lib.OthersKept 5 (some b) w w'):=by
 refine (bl_str B b (Lib.byteCells l) s w h (by rw [Lib.byteCells_length];exact hlen) hBw).mono ?_
 rintro e w' ⟨rfl,h1,h2,h3⟩
 exact ⟨rfl, .inr (by simpa [Lib.byteCells,Lib.strCells] using h1),h2,h3⟩
theorem bl_new (w:World):Lib.IsBuilderF 115 5 w.heap.size w.heap.size (Lib.byteCells []) (w.alloc (.cells #[.pointer none, .slice none 0 0] 115)):=
 .inl ⟨Nat.le_refl _, .slice none 0 0,by simpa using blk_new w _,World.ownsRowF_nil _ _ _ _,by simp [Value.ownBlock]⟩
def u8of (c:Int):UInt8:=UInt8.ofNat c.toNat
theorem u8of_toNat {c:Int} (h0:0≤c) (h1:c≤255):c=((u8of c).toNat:Int):=by
 unfold u8of
 rw [UInt8.toNat_ofNat_of_lt' (by simp only [UInt8.size];omega)]
 omega
def wb (bs:List UInt8) (u:UInt8):Option (List UInt8):=if bs.length + 1≤140737488355328 then some (bs ++ [u]) else none
def ws (bs:List UInt8) (s:ByteArray):Option (List UInt8):=if bs.length + s.size≤140737488355328 then some (bs ++ s.data.toList) else none
theorem wb_some {bs r:List UInt8} {u:UInt8} (h:wb bs u=some r):bs.length + 1≤140737488355328∧r=bs ++ [u]:=by
 unfold wb at h
 split at h
 ·exact ⟨by assumption,(Option.some.inj h).symm⟩
 ·exact absurd h (by simp)
theorem ws_some {bs r:List UInt8} {s:ByteArray} (h:ws bs s=some r):bs.length + s.size≤140737488355328∧r=bs ++ s.data.toList:=by
 unfold ws at h
 split at h
 ·exact ⟨by assumption,(Option.some.inj h).symm⟩
 ·exact absurd h (by simp)
theorem ok_blk {b g:Nat} {w w':World} {cs:Array Value} {t:TypeId} {fr:Nat × Nat} (h:Lib.OthersKept 5 (some b) w w') (hg:w.heap[g]?= some (.cells cs t fr)) (ht:t≠5) (hne:g≠b):w'.heap[g]?= some (.cells cs t fr):=by
 refine h g _ hg (fun e=>hne (Option.some.inj e)) (fun c fz e=> ?_)
 injection e with _ e _
 exact ht e
theorem isb_alloc {T e:TypeId} {B b:Nat} {bs:List Value} {w:World} (h:Lib.IsBuilderF T e B b bs w) (o:Obj):Lib.IsBuilderF T e B b bs (w.alloc o):=h.imp (fun h=>h.alloc o) (fun h=>h.alloc o)
theorem isb_lt {T e:TypeId} {B b:Nat} {bs:List Value} {w:World} (h:Lib.IsBuilderF T e B b bs w):b < w.heap.size:=h.elim (fun h=>h.lt) (fun h=>h.lt)
def bl_ren:Go.Shelf.Ren:=⟨fun|169=>90|n=>n,fun|70=>113|9=>9|0=>0|72=>115|37=>22|127=>130|3=>3|5=>5|n=>n,fun|n=>n⟩
theorem bl_lays:Go.Proofs.Lays.n169 Try.prog bl_ren:= {
 mixed:=by kernel_rfl
 f169:=Try.func90.trans (congrArg some (by kernel_rfl))
 t0:=Try.underlying0
 a0:=Try.isAgg0
 z0:=Try.sizeOf0
 v0:=Try.zeroValue0
 t3:=Try.underlying3
 a3:=Try.isAgg3
 z3:=Try.sizeOf3
 v3:=Try.zeroValue3
 t9:=Try.underlying9
 a9:=Try.isAgg9
 z9:=Try.sizeOf9
 v9:=Try.zeroValue9
 t37:=Try.underlying22
 a37:=Try.isAgg22
 z37:=Try.sizeOf22
 v37:=Try.zeroValue22
 t70:=Try.underlying113
 a70:=Try.isAgg113
 z70:=Try.sizeOf113
 v70:=Try.zeroValue113
 t72:=Try.underlying115
 a72:=Try.isAgg115
 z72:=Try.sizeOf115
 v72:=Try.zeroValue115
 t127:=Try.underlying130
 a127:=Try.isAgg130
 z127:=Try.sizeOf130
 v127:=Try.zeroValue130 }
theorem bl_extra:Builder.Extra Try.prog bl_ren:= {
 sizeBuilder:=by kernel_rfl
 liesBuilder:=by kernel_rfl
 t5:=Try.underlying5
 a5:=Try.isAgg5
 z5:=Try.sizeOf5
 v5:=Try.zeroValue5
 infoByte:=by kernel_rfl
 cellsByte:=by kernel_rfl
 sizeByte:=by kernel_rfl
 neB5:=by decide }
theorem bl_string (B b:Nat) (l:List UInt8) (w:World) (h:Lib.IsBuilderF 115 5 B b (Lib.byteCells l) w) (hBw:B≤w.heap.size):
  Calls Try.prog 90 #[.pointer (some ⟨b,0,none⟩)] w fun e w'=>e= .returned (.string ⟨l.toArray⟩)∧(Lib.IsBuilderF 115 5 B b (Lib.byteCells l) w'∧Below B w w'∧Lib.OthersKept 5 (some b) w w'):=Any.Builder_String_any_k bl_lays bl_extra B b l w h hBw
end Go.Proofs.Ytakpkmkjhndpjaa.Q
end
section
namespace Go.Proofs.Ytakpkmkjhndpjaa.Q
open Go.RowKit Go.Proofs.YtakpkmkjhndpjaaW.PrintWords Go.Proofs.YtakpkmkjhndpjaaW.PrintLast Go.Proofs.YtakpkmkjhndpjaaW.PrintMore
set_option linter.unusedVariables false
set_option linter.unusedSimpArgs false
def impl_show.l1:Nat→List UInt8→ByteArray→Int→Option (List UInt8)
  |0,_,_,_=>none
  |k + 1,bs,s,i=>if i < (s.size:Int) then (if 0≤i then
      (if bt s i=34∨bt s i=92 then (wb bs 92).bind fun b1=>(wb b1 (u8of (bt s i))).bind fun b2=>impl_show.l1 k b2 s (wrap64 (i + 1))
       else if 32≤bt s i∧bt s i≤126 then (wb bs (u8of (bt s i))).bind fun b1=>impl_show.l1 k b1 s (wrap64 (i + 1))
       else (wb bs 92).bind fun b1=>(wb b1 (u8of (48 + bt s i / 100))).bind fun b2=>(wb b2 (u8of (48 + bt s i / 10 % 10))).bind fun b3=>(wb b3 (u8of (48 + bt s i % 10))).bind fun b4=>impl_show.l1 k b4 s (wrap64 (i + 1)))
      else none) else wb bs 34
mutual
def impl_show.l0:Nat→List UInt8→List S26→Int→Option (List UInt8)
  |0,_,_,_=>none
  |k + 1,bs,l,i=>if i < (l.length:Int) then (if 0≤i then (wb bs 32).bind fun b1=>(impl_show.f k b1 (rd_T26 l i).f0 (rd_T26 l i).f1 (rd_T26 l i).f2 (rd_T26 l i).f3).bind fun b2=>impl_show.l0 k b2 l (wrap64 (i + 1)) else none) else wb bs 41
def impl_show.f:Nat→List UInt8→ByteArray→ByteArray→Bool→List S26→Option (List UInt8)
  |0,_,_,_,_,_=>none
  |k + 1,bs,a0,a1,a2,l=>if a2=true then (ws bs a0).bind fun b1=>(wb b1 34).bind fun b2=>impl_show.l1 k b2 a1 0
      else (wb bs 40).bind fun b1=>(ws b1 a0).bind fun b2=>impl_show.l0 k b2 l 0
end
set_option maxHeartbeats 1000000 in
set_option maxRecDepth 100000 in
theorem impl_show.calls (k:Nat): ∀ (b:Nat) (bs:List UInt8) (a0 a1:ByteArray) (a2:Bool) (A:Option Addr) (c:Nat) (l:List S26) (r:List UInt8) (w0 w:World)
    (hB:Below w0.heap.size w0 w) (hI:Lib.IsBuilderF 115 5 w0.heap.size b (Lib.byteCells bs) w)
    (hr:Kd.C k26 w0 A l.length l) (hc:l.length≤c) (h:impl_show.f k bs a0 a1 a2 l=some r),
    Calls Try.prog 89 #[.pointer (some ⟨b,0,none⟩), .agg #[.string a0, .string a1, .bool a2, .slice A l.length c]] w fun e w'=>
      e= .returned (.tuple #[])∧Lib.IsBuilderF 115 5 w0.heap.size b (Lib.byteCells r) w'∧Below w0.heap.size w0 w'∧Lib.OthersKept 5 (some b) w w':=by
  induction k using Nat.strongRecOn with
  |_ k ih=>
  intro b bs a0 a1 a2 A c l r w0 w hB hI hr hc h
  cases k with
  |zero=>exact absurd h (by simp [impl_show.f])
  |succ k=>
  simp only [impl_show.f] at h
  have HIH:=A0_ ih
  have HR:=A0_ hr
  have HC:=A0_ hc
  have HI:=A0_ hI
  have HB:=A0_ hB
  clear ih hr hc hI hB
  cases a2 with
  |true=>
    rw [if_pos rfl] at h
    replace h:=Option.bind_eq_some_iff.mp h
    obtain ⟨b1,h1,h⟩:=h
    replace h:=Option.bind_eq_some_iff.mp h
    obtain ⟨b2,h2,h⟩:=h
    obtain ⟨z1,rfl⟩:=ws_some h1
    obtain ⟨z2,rfl⟩:=wb_some h2
    have H:=A0_ h
    have Z1:=A0_ z1
    have Z2:=A0_ z2
    clear h h1 h2 z1 z2
    go_enter Try.func89,Try.ntmps89
    go_wp2_with (first
      |(go_at_call 112;refine (bl_ws w0.heap.size b bs a0 _ (isb_alloc HI.out _) Z1.out (below_size (below_alloc HB.out _))).mono ?_;rintro e w1 ⟨rfl,i1,bb1,k1⟩;have I1:=A0_ i1;have B1:=A0_ ((below_alloc HB.out _).trans bb1);have K1:=A0_ (((Lib.OthersKept.refl 5 (some b) w).alloc _).trans k1);have X1:=A0_ (ok_blk k1 (blk_new w (.cells #[.string a0, .string a1, .bool true, .slice A l.length c] 26)) (by decide) (Nat.ne_of_gt (isb_lt HI.out)));clear i1 bb1 k1)
      |(go_at_call 111;refine (bl_wb w0.heap.size b _ 34 34 rfl _ I1.out Z2.out (below_size B1.out)).mono ?_;rintro e w2 ⟨rfl,i1,bb1,k1⟩;have I2:=A0_ i1;have B2:=A0_ (B1.out.trans bb1);have K2:=A0_ (K1.out.trans k1);have X2:=A0_ (ok_blk k1 X1.out (by decide) (Nat.ne_of_gt (isb_lt HI.out)));clear i1 bb1 k1))
    go_loopg [6] k (fun kq v6 w'=> ∃ (i:Int) (b':List UInt8),v6= .int .i64 i∧Aside0 (impl_show.l1 kq b' a1 i=some r)∧Aside0 (kq≤k)∧Aside0 (Lib.IsBuilderF 115 5 w0.heap.size b (Lib.byteCells b') w')∧Aside0 (Below w0.heap.size w0 w')∧Aside0 (Lib.OthersKept 5 (some b) w w')∧Aside0 (w'.heap[w.heap.size]?= some (.cells #[.string a0, .string a1, .bool true, .slice A l.length c] 26 (0,0))))
    case atStart=>exact ⟨0,_,rfl,H,⟨Nat.le_refl _⟩,I2,B2,K2,X2⟩
    case round=>
      clear H I1 I2 B1 B2 K1 K2 X1 X2
      obtain ⟨i,b',rfl,HA,HK1,I,B,K,X⟩:=hrel
      have hlt:=isb_lt I.out
      have hx0:wr.cell? ⟨w.heap.size,0,none⟩=some (.string a0):=(blk_cell X.out 0).trans rfl
      have hx1:wr.cell? ⟨w.heap.size,1,none⟩=some (.string a1):=(blk_cell X.out 1).trans rfl
      cases gk with
      |zero=>exact absurd HA.out (by simp [impl_show.l1])
      |succ k1=>
        have h:=HA.out
        clear HA
        simp only [impl_show.l1] at h
        by_cases c5:i < (a1.size:Int)
        · rw [if_pos c5] at h
          have c5b:decide (i < (a1.size:Int))=true:=decide_eq_true c5
          by_cases c6:0≤i
          · rw [if_pos c6] at h
            have p:=eq_true c6
            have q:=eq_true c5
            have hb:=bt_at a1 i
            have hbr:=bt_range a1 i
            clear c5 c6
            have h0:=hbr.1
            have h255:=hbr.2
            clear hbr
            by_cases c7:bt a1 i=34∨bt a1 i=92
            · rw [if_pos c7] at h
              by_cases c7a:bt a1 i=34
              · have c7b:(bt a1 i == 34)=true:=beq_iff_eq.mpr c7a
                clear c7 c7a
                replace h:=Option.bind_eq_some_iff.mp h
                obtain ⟨b1,h1,h⟩:=h
                replace h:=Option.bind_eq_some_iff.mp h
                obtain ⟨b2,h2,h⟩:=h
                obtain ⟨z1,rfl⟩:=wb_some h1
                obtain ⟨z2,rfl⟩:=wb_some h2
                have H:=A0_ h
                have Z1:=A0_ z1
                have Z2:=A0_ z2
                clear h h1 z1 h2 z2
                go_wp2_with fail
                refine (bl_wb w0.heap.size b _ 92 _ (rfl) _ I.out Z1.out (below_size B.out)).mono ?_
                rintro e w2 ⟨rfl,i1,bb1,k1⟩
                have I2:=A0_ i1;have B2:=A0_ (B.out.trans bb1);have K2:=A0_ (K.out.trans k1);have X2:=A0_ (ok_blk k1 X.out (by decide) (Nat.ne_of_gt (isb_lt HI.out)))
                have hx0_2:w2.cell? ⟨w.heap.size,0,none⟩=some (.string a0):=(blk_cell X2.out 0).trans rfl
                have hx1_2:w2.cell? ⟨w.heap.size,1,none⟩=some (.string a1):=(blk_cell X2.out 1).trans rfl
                clear i1 bb1 k1
                go_wp2_with fail
                refine (bl_wb w0.heap.size b _ (u8of (bt a1 i)) _ (u8of_toNat h0 h255) _ I2.out Z2.out (below_size B2.out)).mono ?_
                rintro e w3 ⟨rfl,i1,bb1,k1⟩
                have I3:=A0_ i1;have B3:=A0_ (B2.out.trans bb1);have K3:=A0_ (K2.out.trans k1);have X3:=A0_ (ok_blk k1 X2.out (by decide) (Nat.ne_of_gt (isb_lt HI.out)))
                have hx0_3:w3.cell? ⟨w.heap.size,0,none⟩=some (.string a0):=(blk_cell X3.out 0).trans rfl
                have hx1_3:w3.cell? ⟨w.heap.size,1,none⟩=some (.string a1):=(blk_cell X3.out 1).trans rfl
                clear i1 bb1 k1
                go_wp2
                go_roundg k1
                case measure=>have:=HK1.out;omega
                case rel=>exact ⟨wrap64 (i + 1),_,rfl,H,⟨by have:=HK1.out;omega⟩,I3,B3,K3,X3⟩
              · have c7b:(bt a1 i == 34)=false:=beq_eq_false_iff_ne.mpr c7a
                have c7c:(bt a1 i == 92)=true:=beq_iff_eq.mpr (c7.resolve_left c7a)
                clear c7 c7a
                replace h:=Option.bind_eq_some_iff.mp h
                obtain ⟨b1,h1,h⟩:=h
                replace h:=Option.bind_eq_some_iff.mp h
                obtain ⟨b2,h2,h⟩:=h
                obtain ⟨z1,rfl⟩:=wb_some h1
                obtain ⟨z2,rfl⟩:=wb_some h2
                have H:=A0_ h
                have Z1:=A0_ z1
                have Z2:=A0_ z2
                clear h h1 z1 h2 z2
                go_wp2_with fail
                refine (bl_wb w0.heap.size b _ 92 _ (rfl) _ I.out Z1.out (below_size B.out)).mono ?_
                rintro e w2 ⟨rfl,i1,bb1,k1⟩
                have I2:=A0_ i1;have B2:=A0_ (B.out.trans bb1);have K2:=A0_ (K.out.trans k1);have X2:=A0_ (ok_blk k1 X.out (by decide) (Nat.ne_of_gt (isb_lt HI.out)))
                have hx0_2:w2.cell? ⟨w.heap.size,0,none⟩=some (.string a0):=(blk_cell X2.out 0).trans rfl
                have hx1_2:w2.cell? ⟨w.heap.size,1,none⟩=some (.string a1):=(blk_cell X2.out 1).trans rfl
                clear i1 bb1 k1
                go_wp2_with fail
                refine (bl_wb w0.heap.size b _ (u8of (bt a1 i)) _ (u8of_toNat h0 h255) _ I2.out Z2.out (below_size B2.out)).mono ?_
                rintro e w3 ⟨rfl,i1,bb1,k1⟩
                have I3:=A0_ i1;have B3:=A0_ (B2.out.trans bb1);have K3:=A0_ (K2.out.trans k1);have X3:=A0_ (ok_blk k1 X2.out (by decide) (Nat.ne_of_gt (isb_lt HI.out)))
                have hx0_3:w3.cell? ⟨w.heap.size,0,none⟩=some (.string a0):=(blk_cell X3.out 0).trans rfl
                have hx1_3:w3.cell? ⟨w.heap.size,1,none⟩=some (.string a1):=(blk_cell X3.out 1).trans rfl
                clear i1 bb1 k1
                go_wp2
                go_roundg k1
                case measure=>have:=HK1.out;omega
                case rel=>exact ⟨wrap64 (i + 1),_,rfl,H,⟨by have:=HK1.out;omega⟩,I3,B3,K3,X3⟩
            · rw [if_neg c7] at h
              have c7a:(bt a1 i == 34)=false:=beq_eq_false_iff_ne.mpr (fun e=>c7 (.inl e))
              have c7b:(bt a1 i == 92)=false:=beq_eq_false_iff_ne.mpr (fun e=>c7 (.inr e))
              clear c7
              by_cases c8:32≤bt a1 i∧bt a1 i≤126
              · rw [if_pos c8] at h
                have c8a:decide (32≤bt a1 i)=true:=decide_eq_true c8.1
                have c8b:decide (bt a1 i≤126)=true:=decide_eq_true c8.2
                clear c8
                replace h:=Option.bind_eq_some_iff.mp h
                obtain ⟨b1,h1,h⟩:=h
                obtain ⟨z1,rfl⟩:=wb_some h1
                have H:=A0_ h
                have Z1:=A0_ z1
                clear h h1 z1
                go_wp2_with fail
                refine (bl_wb w0.heap.size b _ (u8of (bt a1 i)) _ (u8of_toNat h0 h255) _ I.out Z1.out (below_size B.out)).mono ?_
                rintro e w2 ⟨rfl,i1,bb1,k1⟩
                have I2:=A0_ i1;have B2:=A0_ (B.out.trans bb1);have K2:=A0_ (K.out.trans k1);have X2:=A0_ (ok_blk k1 X.out (by decide) (Nat.ne_of_gt (isb_lt HI.out)))
                have hx0_2:w2.cell? ⟨w.heap.size,0,none⟩=some (.string a0):=(blk_cell X2.out 0).trans rfl
                have hx1_2:w2.cell? ⟨w.heap.size,1,none⟩=some (.string a1):=(blk_cell X2.out 1).trans rfl
                clear i1 bb1 k1
                go_wp2
                go_roundg k1
                case measure=>have:=HK1.out;omega
                case rel=>exact ⟨wrap64 (i + 1),_,rfl,H,⟨by have:=HK1.out;omega⟩,I2,B2,K2,X2⟩
              · rw [if_neg c8] at h
                by_cases c9:32≤bt a1 i
                · have c9a:decide (32≤bt a1 i)=true:=decide_eq_true c9
                  have c9b:decide (bt a1 i≤126)=false:=decide_eq_false (fun e=>c8 ⟨c9,e⟩)
                  clear c8 c9
                  replace h:=Option.bind_eq_some_iff.mp h
                  obtain ⟨b1,h1,h⟩:=h
                  replace h:=Option.bind_eq_some_iff.mp h
                  obtain ⟨b2,h2,h⟩:=h
                  replace h:=Option.bind_eq_some_iff.mp h
                  obtain ⟨b3,h3,h⟩:=h
                  replace h:=Option.bind_eq_some_iff.mp h
                  obtain ⟨b4,h4,h⟩:=h
                  obtain ⟨z1,rfl⟩:=wb_some h1
                  obtain ⟨z2,rfl⟩:=wb_some h2
                  obtain ⟨z3,rfl⟩:=wb_some h3
                  obtain ⟨z4,rfl⟩:=wb_some h4
                  have H:=A0_ h
                  have Z1:=A0_ z1
                  have Z2:=A0_ z2
                  have Z3:=A0_ z3
                  have Z4:=A0_ z4
                  clear h h1 z1 h2 z2 h3 z3 h4 z4
                  go_wp2_with fail
                  refine (bl_wb w0.heap.size b _ 92 _ (rfl) _ I.out Z1.out (below_size B.out)).mono ?_
                  rintro e w2 ⟨rfl,i1,bb1,k1⟩
                  have I2:=A0_ i1;have B2:=A0_ (B.out.trans bb1);have K2:=A0_ (K.out.trans k1);have X2:=A0_ (ok_blk k1 X.out (by decide) (Nat.ne_of_gt (isb_lt HI.out)))
                  have hx0_2:w2.cell? ⟨w.heap.size,0,none⟩=some (.string a0):=(blk_cell X2.out 0).trans rfl
                  have hx1_2:w2.cell? ⟨w.heap.size,1,none⟩=some (.string a1):=(blk_cell X2.out 1).trans rfl
                  clear i1 bb1 k1
                  go_wp2_with fail
                  refine (bl_wb w0.heap.size b _ (u8of (48 + bt a1 i / 100)) _ (u8of_toNat (by omega) (by omega)) _ I2.out Z2.out (below_size B2.out)).mono ?_
                  rintro e w3 ⟨rfl,i1,bb1,k1⟩
                  have I3:=A0_ i1;have B3:=A0_ (B2.out.trans bb1);have K3:=A0_ (K2.out.trans k1);have X3:=A0_ (ok_blk k1 X2.out (by decide) (Nat.ne_of_gt (isb_lt HI.out)))
                  have hx0_3:w3.cell? ⟨w.heap.size,0,none⟩=some (.string a0):=(blk_cell X3.out 0).trans rfl
                  have hx1_3:w3.cell? ⟨w.heap.size,1,none⟩=some (.string a1):=(blk_cell X3.out 1).trans rfl
                  clear i1 bb1 k1
                  go_wp2_with fail
                  refine (bl_wb w0.heap.size b _ (u8of (48 + bt a1 i / 10 % 10)) _ (u8of_toNat (by omega) (by omega)) _ I3.out Z3.out (below_size B3.out)).mono ?_
                  rintro e w4 ⟨rfl,i1,bb1,k1⟩
                  have I4:=A0_ i1;have B4:=A0_ (B3.out.trans bb1);have K4:=A0_ (K3.out.trans k1);have X4:=A0_ (ok_blk k1 X3.out (by decide) (Nat.ne_of_gt (isb_lt HI.out)))
                  have hx0_4:w4.cell? ⟨w.heap.size,0,none⟩=some (.string a0):=(blk_cell X4.out 0).trans rfl
                  have hx1_4:w4.cell? ⟨w.heap.size,1,none⟩=some (.string a1):=(blk_cell X4.out 1).trans rfl
                  clear i1 bb1 k1
                  go_wp2_with fail
                  refine (bl_wb w0.heap.size b _ (u8of (48 + bt a1 i % 10)) _ (u8of_toNat (by omega) (by omega)) _ I4.out Z4.out (below_size B4.out)).mono ?_
                  rintro e w5 ⟨rfl,i1,bb1,k1⟩
                  have I5:=A0_ i1;have B5:=A0_ (B4.out.trans bb1);have K5:=A0_ (K4.out.trans k1);have X5:=A0_ (ok_blk k1 X4.out (by decide) (Nat.ne_of_gt (isb_lt HI.out)))
                  have hx0_5:w5.cell? ⟨w.heap.size,0,none⟩=some (.string a0):=(blk_cell X5.out 0).trans rfl
                  have hx1_5:w5.cell? ⟨w.heap.size,1,none⟩=some (.string a1):=(blk_cell X5.out 1).trans rfl
                  clear i1 bb1 k1
                  go_wp2
                  go_roundg k1
                  case measure=>have:=HK1.out;omega
                  case rel=>exact ⟨wrap64 (i + 1),_,rfl,H,⟨by have:=HK1.out;omega⟩,I5,B5,K5,X5⟩
                · have c9a:decide (32≤bt a1 i)=false:=decide_eq_false c9
                  clear c8 c9
                  replace h:=Option.bind_eq_some_iff.mp h
                  obtain ⟨b1,h1,h⟩:=h
                  replace h:=Option.bind_eq_some_iff.mp h
                  obtain ⟨b2,h2,h⟩:=h
                  replace h:=Option.bind_eq_some_iff.mp h
                  obtain ⟨b3,h3,h⟩:=h
                  replace h:=Option.bind_eq_some_iff.mp h
                  obtain ⟨b4,h4,h⟩:=h
                  obtain ⟨z1,rfl⟩:=wb_some h1
                  obtain ⟨z2,rfl⟩:=wb_some h2
                  obtain ⟨z3,rfl⟩:=wb_some h3
                  obtain ⟨z4,rfl⟩:=wb_some h4
                  have H:=A0_ h
                  have Z1:=A0_ z1
                  have Z2:=A0_ z2
                  have Z3:=A0_ z3
                  have Z4:=A0_ z4
                  clear h h1 z1 h2 z2 h3 z3 h4 z4
                  go_wp2_with fail
                  refine (bl_wb w0.heap.size b _ 92 _ (rfl) _ I.out Z1.out (below_size B.out)).mono ?_
                  rintro e w2 ⟨rfl,i1,bb1,k1⟩
                  have I2:=A0_ i1;have B2:=A0_ (B.out.trans bb1);have K2:=A0_ (K.out.trans k1);have X2:=A0_ (ok_blk k1 X.out (by decide) (Nat.ne_of_gt (isb_lt HI.out)))
                  have hx0_2:w2.cell? ⟨w.heap.size,0,none⟩=some (.string a0):=(blk_cell X2.out 0).trans rfl
                  have hx1_2:w2.cell? ⟨w.heap.size,1,none⟩=some (.string a1):=(blk_cell X2.out 1).trans rfl
                  clear i1 bb1 k1
                  go_wp2_with fail
                  refine (bl_wb w0.heap.size b _ (u8of (48 + bt a1 i / 100)) _ (u8of_toNat (by omega) (by omega)) _ I2.out Z2.out (below_size B2.out)).mono ?_
                  rintro e w3 ⟨rfl,i1,bb1,k1⟩
                  have I3:=A0_ i1;have B3:=A0_ (B2.out.trans bb1);have K3:=A0_ (K2.out.trans k1);have X3:=A0_ (ok_blk k1 X2.out (by decide) (Nat.ne_of_gt (isb_lt HI.out)))
                  have hx0_3:w3.cell? ⟨w.heap.size,0,none⟩=some (.string a0):=(blk_cell X3.out 0).trans rfl
                  have hx1_3:w3.cell? ⟨w.heap.size,1,none⟩=some (.string a1):=(blk_cell X3.out 1).trans rfl
                  clear i1 bb1 k1
                  go_wp2_with fail
                  refine (bl_wb w0.heap.size b _ (u8of (48 + bt a1 i / 10 % 10)) _ (u8of_toNat (by omega) (by omega)) _ I3.out Z3.out (below_size B3.out)).mono ?_
                  rintro e w4 ⟨rfl,i1,bb1,k1⟩
                  have I4:=A0_ i1;have B4:=A0_ (B3.out.trans bb1);have K4:=A0_ (K3.out.trans k1);have X4:=A0_ (ok_blk k1 X3.out (by decide) (Nat.ne_of_gt (isb_lt HI.out)))
                  have hx0_4:w4.cell? ⟨w.heap.size,0,none⟩=some (.string a0):=(blk_cell X4.out 0).trans rfl
                  have hx1_4:w4.cell? ⟨w.heap.size,1,none⟩=some (.string a1):=(blk_cell X4.out 1).trans rfl
                  clear i1 bb1 k1
                  go_wp2_with fail
                  refine (bl_wb w0.heap.size b _ (u8of (48 + bt a1 i % 10)) _ (u8of_toNat (by omega) (by omega)) _ I4.out Z4.out (below_size B4.out)).mono ?_
                  rintro e w5 ⟨rfl,i1,bb1,k1⟩
                  have I5:=A0_ i1;have B5:=A0_ (B4.out.trans bb1);have K5:=A0_ (K4.out.trans k1);have X5:=A0_ (ok_blk k1 X4.out (by decide) (Nat.ne_of_gt (isb_lt HI.out)))
                  have hx0_5:w5.cell? ⟨w.heap.size,0,none⟩=some (.string a0):=(blk_cell X5.out 0).trans rfl
                  have hx1_5:w5.cell? ⟨w.heap.size,1,none⟩=some (.string a1):=(blk_cell X5.out 1).trans rfl
                  clear i1 bb1 k1
                  go_wp2
                  go_roundg k1
                  case measure=>have:=HK1.out;omega
                  case rel=>exact ⟨wrap64 (i + 1),_,rfl,H,⟨by have:=HK1.out;omega⟩,I5,B5,K5,X5⟩
          · rw [if_neg c6] at h
            exact absurd h (by simp)
        · rw [if_neg c5] at h
          have c5b:decide (i < (a1.size:Int))=false:=decide_eq_false c5
          clear c5
          obtain ⟨z3,rfl⟩:=wb_some h
          have Z3:=A0_ z3
          clear h z3
          go_wp2_with (go_at_call 111;refine (bl_wb w0.heap.size b _ 34 34 rfl _ I.out Z3.out (below_size B.out)).mono ?_;rintro e w2 ⟨rfl,i1,bb1,k1⟩;have I2:=A0_ i1;have B2:=A0_ (B.out.trans bb1);have K2:=A0_ (K.out.trans k1);clear i1 bb1 k1)
          go_end0
          exact ⟨rfl,I2.out,B2.out,K2.out⟩
  |false=>
    rw [if_neg Bool.false_ne_true] at h
    replace h:=Option.bind_eq_some_iff.mp h
    obtain ⟨b1,h1,h⟩:=h
    replace h:=Option.bind_eq_some_iff.mp h
    obtain ⟨b2,h2,h⟩:=h
    obtain ⟨z1,rfl⟩:=wb_some h1
    obtain ⟨z2,rfl⟩:=ws_some h2
    have H:=A0_ h
    have Z1:=A0_ z1
    have Z2:=A0_ z2
    clear h h1 h2 z1 z2
    go_enter Try.func89,Try.ntmps89
    go_wp2_with (first
      |(go_at_call 111;refine (bl_wb w0.heap.size b bs 40 40 rfl _ (isb_alloc HI.out _) Z1.out (below_size (below_alloc HB.out _))).mono ?_;rintro e w1 ⟨rfl,i1,bb1,k1⟩;have I1:=A0_ i1;have B1:=A0_ ((below_alloc HB.out _).trans bb1);have K1:=A0_ (((Lib.OthersKept.refl 5 (some b) w).alloc _).trans k1);have X1:=A0_ (ok_blk k1 (blk_new w (.cells #[.string a0, .string a1, .bool false, .slice A l.length c] 26)) (by decide) (Nat.ne_of_gt (isb_lt HI.out)));have hx0:w1.cell? ⟨w.heap.size,0,none⟩=some (.string a0):=(blk_cell X1.out 0).trans rfl;clear i1 bb1 k1)
      |(go_at_call 112;refine (bl_ws w0.heap.size b _ a0 _ I1.out Z2.out (below_size B1.out)).mono ?_;rintro e w2 ⟨rfl,i1,bb1,k1⟩;have I2:=A0_ i1;have B2:=A0_ (B1.out.trans bb1);have K2:=A0_ (K1.out.trans k1);have X2:=A0_ (ok_blk k1 X1.out (by decide) (Nat.ne_of_gt (isb_lt HI.out)));have hx3:w2.cell? ⟨w.heap.size,3,none⟩=some (.slice A l.length c):=(blk_cell X2.out 3).trans rfl;clear i1 bb1 k1))
    go_loopg [20] k (fun kq v20 w'=> ∃ (i:Int) (b':List UInt8),v20= .int .i64 i∧Aside0 (impl_show.l0 kq b' l i=some r)∧Aside0 (kq≤k)∧Aside0 (Lib.IsBuilderF 115 5 w0.heap.size b (Lib.byteCells b') w')∧Aside0 (Below w0.heap.size w0 w')∧Aside0 (Lib.OthersKept 5 (some b) w w'))
    case atStart=>exact ⟨0,_,rfl,H,⟨Nat.le_refl _⟩,I2,B2,K2⟩
    case round=>
      clear H I1 I2 B1 B2 K1 K2 X1 X2 hx0 hx3
      obtain ⟨i,b',rfl,HA,HK1,I,B,K⟩:=hrel
      cases gk with
      |zero=>exact absurd HA.out (by simp [impl_show.l0])
      |succ k1=>
        have h:=HA.out
        clear HA
        simp only [impl_show.l0] at h
        by_cases c5:i < (l.length:Int)
        · rw [if_pos c5] at h
          have c5b:decide (i < (l.length:Int))=true:=decide_eq_true c5
          by_cases c6:0≤i
          · rw [if_pos c6] at h
            replace h:=Option.bind_eq_some_iff.mp h
            obtain ⟨b1,h1,h⟩:=h
            replace h:=Option.bind_eq_some_iff.mp h
            obtain ⟨b2,h2,h⟩:=h
            obtain ⟨z1,rfl⟩:=wb_some h1
            have H:=A0_ h
            have H2:=A0_ h2
            have Z1:=A0_ z1
            clear h h1 h2 z1
            have p:=c6
            have q:=c5
            obtain ⟨ad,Ak,ck,e,hx0,hx1,hx2,hx3,hl,hi⟩:=at_T26 HR.out i p q
            cases e
            replace hx0:=(B.out.cell (World.block_lt_of_cell? w0 _ hx0)).trans hx0
            replace hx1:=(B.out.cell (World.block_lt_of_cell? w0 _ hx1)).trans hx1
            replace hx2:=(B.out.cell (World.block_lt_of_cell? w0 _ hx2)).trans hx2
            replace hx3:=(B.out.cell (World.block_lt_of_cell? w0 _ hx3)).trans hx3
            have HI2:=A0_ hi
            have HL:=A0_ hl
            clear hi hl c5 c6
            replace p:=eq_true p
            replace q:=eq_true q
            go_wp2_with (first
              |(go_at_call 111;refine (bl_wb w0.heap.size b _ 32 32 rfl _ (isb_alloc I.out _) Z1.out (below_size (below_alloc B.out _))).mono ?_;rintro e w1 ⟨rfl,i1,bb1,k1⟩;have I1:=A0_ i1;have B1:=A0_ ((below_alloc B.out _).trans bb1);have K1:=A0_ ((K.out.alloc _).trans k1);have X1:=A0_ (ok_blk k1 (blk_new wr (.cells #[.string ((rd_T26 l i).f0), .string ((rd_T26 l i).f1), .bool ((rd_T26 l i).f2), .slice Ak ((rd_T26 l i).f3).length ck] 26)) (by decide) (Nat.ne_of_gt (isb_lt I.out)));obtain ⟨hy0,hy1,hy2,hy3⟩:=bc4_ X1.out;clear i1 bb1 k1)
              |(go_at_call 89;refine (HIH.out k1 (by have:=HK1.out;omega) b _ _ _ _ _ _ _ b2 w0 _ B1.out I1.out HI2.out HL.out H2.out).mono ?_;rintro e w2 ⟨rfl,i2,bb2,k2⟩;have I2:=A0_ i2;have B2:=A0_ bb2;have K2:=A0_ (K1.out.trans k2);clear i2 bb2 k2))
            go_roundg k1
            case measure=>have:=HK1.out;omega
            case rel=>exact ⟨wrap64 (i + 1),_,rfl,H,⟨by have:=HK1.out;omega⟩,I2,B2,K2⟩
          · rw [if_neg c6] at h
            exact absurd h (by simp)
        · rw [if_neg c5] at h
          have c5b:decide (i < (l.length:Int))=false:=decide_eq_false c5
          clear c5
          obtain ⟨z3,rfl⟩:=wb_some h
          have Z3:=A0_ z3
          clear h z3
          go_wp2_with (go_at_call 111;refine (bl_wb w0.heap.size b _ 41 41 rfl _ I.out Z3.out (below_size B.out)).mono ?_;rintro e w2 ⟨rfl,i1,bb1,k1⟩;have I2:=A0_ i1;have B2:=A0_ (B.out.trans bb1);have K2:=A0_ (K.out.trans k1);clear i1 bb1 k1)
          all_goals first|go_end0|refine bodyPost_ret (results_none rfl _ _ _) rfl ?_
          exact ⟨rfl,I2.out,B2.out,K2.out⟩
def impl_text.f (k:Nat) (a0 a1:ByteArray) (a2:Bool) (l:List S26):Option ByteArray:=(impl_show.f k [] a0 a1 a2 l).bind fun r=>some ⟨r.toArray⟩
theorem impl_text.calls (k:Nat) (a0_0:ByteArray) (a0_1:ByteArray) (a0_2:Bool) (A0_3:Option Addr) (c0_3:Nat) (l0_3:List (S26)) (r:ByteArray) (w:World) (hr0_3:Kd.C k26 w A0_3 l0_3.length l0_3) (hc0_3:l0_3.length≤c0_3) (h:impl_text.f k a0_0 a0_1 a0_2 l0_3=some r):
    Calls Try.prog 49 #[.agg #[.string a0_0, .string a0_1, .bool a0_2, .slice A0_3 l0_3.length c0_3]] w fun e w'=>e= .returned (.string r)∧Below w.heap.size w w':=by
  obtain ⟨bs,h1,h2⟩:=Option.bind_eq_some_iff.mp h
  obtain rfl:=Option.some.inj h2
  have H1:=A0_ h1
  have HR:=A0_ hr0_3
  have HC:=A0_ hc0_3
  clear h h1 h2 hr0_3 hc0_3
  have g1:Lib.IsBuilderF 115 5 w.heap.size (w.heap.size + 1) (Lib.byteCells []) ((w.alloc (.cells #[.string a0_0, .string a0_1, .bool a0_2, .slice A0_3 l0_3.length c0_3] 26)).alloc (.cells #[.pointer none, .slice none 0 0] 115)):=by
    have h:=bl_new (w.alloc (.cells #[.string a0_0, .string a0_1, .bool a0_2, .slice A0_3 l0_3.length c0_3] 26))
    have e:(w.alloc (.cells #[.string a0_0, .string a0_1, .bool a0_2, .slice A0_3 l0_3.length c0_3] 26)).heap.size=w.heap.size + 1:=by simp
    rw [e] at h
    refine h.imp (fun h=> ?_) (fun h=> ?_)
    · obtain ⟨_,v,h1,h2,h3⟩:=h
      refine ⟨by omega,v,h1, ?_,h3⟩
      rcases h2.2 with ⟨rfl,h4⟩|⟨g,cap,cur,fz,rfl,hb,h5⟩
      · exact ⟨h2.1, .inl ⟨rfl,h4⟩⟩
      · exact ⟨h2.1, .inr ⟨g,cap,cur,fz,rfl,by omega,h5⟩⟩
    · obtain ⟨_,v,h1,h2,h3⟩:=h
      refine ⟨by omega,v,h1, ?_,h3⟩
      rcases h2.2 with ⟨rfl,h4⟩|⟨g,cap,cur,fz,rfl,hb,h5⟩
      · exact ⟨h2.1, .inl ⟨rfl,h4⟩⟩
      · exact ⟨h2.1, .inr ⟨g,cap,cur,fz,rfl,by omega,h5⟩⟩
  have G1:=A0_ g1
  have W1:=A0_ (below_alloc (below_alloc (Below.refl w.heap.size w) (.cells #[.string a0_0, .string a0_1, .bool a0_2, .slice A0_3 l0_3.length c0_3] 26)) (.cells #[.pointer none, .slice none 0 0] 115))
  clear g1
  go_enter Try.func49,Try.ntmps49
  go_wp2_with (first
    |(go_at_call 89;refine (impl_show.calls k (w.heap.size + 1) [] _ _ _ _ _ _ bs w _ W1.out G1.out HR.out HC.out H1.out).mono ?_;rintro e w2 ⟨rfl,i2,bb2,k2⟩;have I2:=A0_ i2;have B2:=A0_ bb2;clear i2 bb2 k2)
    |(go_at_call 90;refine (bl_string w.heap.size (w.heap.size + 1) bs _ I2.out (below_size B2.out)).mono ?_;rintro e w3 ⟨rfl,i3,bb3,k3⟩;have B3:=A0_ (B2.out.trans bb3);clear i3 bb3 k3))
  go_ret
  exact ⟨rfl,B3.out⟩
end Go.Proofs.Ytakpkmkjhndpjaa.Q
end
section
namespace Go.Proofs.Ytakpkmkjhndpjaa.Q
open Go.RowKit Go.Proofs.YtakpkmkjhndpjaaW.PrintWords Go.Proofs.YtakpkmkjhndpjaaW.PrintLast Go.Proofs.YtakpkmkjhndpjaaW.PrintMore
attribute [local go_sem] max2_int min2_int max_two min_two max_three min_three max_four min_four
set_option linter.unusedVariables false
set_option linter.unusedSimpArgs false
def impl_TreeHash.l0:Nat→Int→ByteArray→Int→Option (Int × Int)
 |0,_,_,_=>none
 |k + 1,x4,x5,x6=>if x6 < (x5.size:Int) then (if 0≤x6 then (impl_TreeHash.l0 k (Go.bits .and .i64 (wrap64 ((wrap64 (x4 * 33)) + (wrap64 (bt x5 x6)))) 4294967295) x5 (wrap64 (x6 + 1))) else (none)) else (some (x4,0))
def impl_TreeHash.f (k:Nat) (a0_0:ByteArray) (a0_1:ByteArray) (a0_2:Bool) (l0_3:List (S26)):Option (Int × Int):=(impl_TreeOK.f k a0_0 a0_1 a0_2 l0_3).bind fun t494=>(if t494=true then ((impl_text.f k a0_0 a0_1 a0_2 l0_3).bind fun t495=>(impl_TreeHash.l0 k 5381 t495 0)) else (some (0,1)))
set_option maxHeartbeats 8000000 in
set_option maxRecDepth 100000 in
theorem impl_TreeHash.calls (k:Nat) (a0_0:ByteArray) (a0_1:ByteArray) (a0_2:Bool) (A0_3:Option Addr) (c0_3:Nat) (l0_3:List (S26)) (r1:Int) (r2:Int) (w:World) (hr0_3:Kd.C k26 w A0_3 l0_3.length l0_3) (hc0_3:l0_3.length≤c0_3) (h:impl_TreeHash.f k a0_0 a0_1 a0_2 l0_3=some (r1,r2)):
  Calls Try.prog 14 #[.agg #[.string a0_0, .string a0_1, .bool a0_2, .slice A0_3 l0_3.length c0_3]] w fun e w'=>e= .returned (.tuple #[.int .i64 r1, .int .i64 r2])∧Below w.heap.size w w':=by
 have hu26:=Try.underlying26
 have HR0_3:=A0_ hr0_3
 have HC0_3:=A0_ hc0_3
 clear hr0_3 hc0_3
 have HB:=A0_ (Below.refl w.heap.size w)
 have H:((impl_TreeOK.f k a0_0 a0_1 a0_2 l0_3).bind fun t494=>(if t494=true then ((impl_text.f k a0_0 a0_1 a0_2 l0_3).bind fun t495=>(impl_TreeHash.l0 k 5381 t495 0)) else (some (0,1))))=some (r1,r2):=h
 clear h
 replace H:=Option.bind_eq_some_iff.mp H
 obtain ⟨t494,A20,H⟩:=H
 replace H:(if t494=true then ((impl_text.f k a0_0 a0_1 a0_2 l0_3).bind fun t495=>(impl_TreeHash.l0 k 5381 t495 0)) else (some (0,1)))=some (r1,r2):=H
 have A2:=A0_ A20
 clear A20
 by_cases c3:t494=true
 ·subst c3
  have H1:((impl_text.f k a0_0 a0_1 a0_2 l0_3).bind fun t495=>(impl_TreeHash.l0 k 5381 t495 0))=some (r1,r2):=by rw [if_pos rfl] at H;exact H
  clear H
  have H:=H1
  clear H1
  replace H:=Option.bind_eq_some_iff.mp H
  obtain ⟨t495,A40,H⟩:=H
  replace H:(impl_TreeHash.l0 k 5381 t495 0)=some (r1,r2):=H
  have A4:=A0_ A40
  clear A40
  have H':=A0_ H
  clear H
  go_enter Try.func14,Try.ntmps14
  go_wp2_with (first|((with_reducible refine gate_dst (N:=1) rfl ?_);refine box_event ?hg (N:=1) ?hd (cs:= #[.string a0_0, .string a0_1, .bool a0_2, .slice A0_3 l0_3.length c0_3]) (t:=26) ?hr ?_;(case hd=>rfl);(case hg=>rfl);(case hr=>first|(go_simp;done)|(go_simp;rfl));intro gb493 hg w5 hbox hb;have BK493:=A0_ (hbox);have GW493:=A0_ ((by rw [hg];exact (below_size HB.out):w.heap.size≤gb493));have GE493:=A0_ ((by rw [hg];exact (below_size HB.out):w.heap.size≤gb493));replace HB:=A0_ (below_step HB.out hb);clear hb hbox hg;obtain ⟨hcz6_0,hcz6_1,hcz6_2,hcz6_3⟩:=bc4_ BK493.out;obtain ⟨hfz6_0,hfz6_1,hfz6_2,hfz6_3⟩:=bf4_ BK493.out)|((with_reducible refine gate_callee (f:=45) rfl ?_);refine goesL_ (some 8) rfl rfl Try.func45 (by kernel_rfl) rfl #[.agg #[.string a0_0, .string a0_1, .bool a0_2, .slice A0_3 l0_3.length c0_3]] rfl (by (try simp only [List.map_toArray,List.map_cons,List.map_nil]);first|done|rfl|(simp only [List.length_drop,List.length_take];rfl)) ?_;(with_reducible refine (impl_TreeOK.calls k a0_0 a0_1 a0_2 _ _ l0_3 true _ ?side1 ?side2 A2.out).mono ?_);(case side1=>repeat (first|exact (Kd.C_below HR0_3.out HB.out)|(with_reducible refine Kd.C_alloc ?_ _)|(with_reducible refine Kd.C_drewN ?_ _)|(with_reducible refine Kd.C_drew ?_)));(case side2=>exact HC0_3.out);rintro e w7 ⟨rfl,hb⟩;refine ⟨_,rfl, ?_⟩;replace BK493:=A0_ (blk_below BK493.out hb);replace HB:=A0_ (below_step HB.out hb);(try clear hb);(try clear hb2);(try clear hk);(try clear hi);obtain ⟨hcz8_0,hcz8_1,hcz8_2,hcz8_3⟩:=bc4_ BK493.out;obtain ⟨hfz8_0,hfz8_1,hfz8_2,hfz8_3⟩:=bf4_ BK493.out)|((with_reducible refine gate_callee (f:=49) rfl ?_);refine goesL_ (some 11) rfl rfl Try.func49 (by kernel_rfl) rfl #[.agg #[.string a0_0, .string a0_1, .bool a0_2, .slice A0_3 l0_3.length c0_3]] rfl (by (try simp only [List.map_toArray,List.map_cons,List.map_nil]);first|done|rfl|(simp only [List.length_drop,List.length_take];rfl)) ?_;(with_reducible refine (impl_text.calls k a0_0 a0_1 a0_2 _ _ l0_3 t495 _ ?side1 ?side2 A4.out).mono ?_);(case side1=>repeat (first|exact (Kd.C_below HR0_3.out HB.out)|(with_reducible refine Kd.C_alloc ?_ _)|(with_reducible refine Kd.C_drewN ?_ _)|(with_reducible refine Kd.C_drew ?_)));(case side2=>exact HC0_3.out);rintro e w9 ⟨rfl,hb⟩;refine ⟨_,rfl, ?_⟩;replace BK493:=A0_ (blk_below BK493.out hb);replace HB:=A0_ (below_step HB.out hb);(try clear hb);(try clear hb2);(try clear hk);(try clear hi)))
  go_loopg [4,6] k (fun kq v4 v6 w'=> ∃ (x4_1:Int) (x6_1:Int),v4= .int .i64 x4_1∧v6= .int .i64 x6_1∧Aside0 (impl_TreeHash.l0 kq x4_1 t495 x6_1=some (r1,r2))∧Aside0 (kq≤k)∧Aside0 (w'.heap[gb493]?= some (.cells #[.string a0_0, .string a0_1, .bool a0_2,(.slice A0_3 l0_3.length c0_3)] 26 (0,0)))∧Aside0 (Below w.heap.size w w'))
  case atStart=>exact ⟨(5381),(0),(by first|rfl|(simp;done)|(simp [*];done)|(simp [bne];done)|(simp [bne, *];done)),(by first|rfl|(simp;done)|(simp [*];done)|(simp [bne];done)|(simp [bne, *];done)),H',⟨Nat.le_refl _⟩,⟨by (with_reducible repeat (first|refine blk_drewN ?_ _|refine blk_drew ?_|refine blk_alloc ?_ _));exact BK493.out⟩,⟨by repeat (first|(with_reducible first|exact HB.out|apply below_alloc|apply pw_below_drewN|apply below_drew1|refine below_set ?_ GE493.out)|exact HB.out)⟩⟩
  case round=>
   clear H'
   try clear c1
   try clear p2
   try clear c3
   try clear c4
   try clear hcz6_0
   try clear hcz6_1
   try clear hcz6_2
   try clear hcz6_3
   try clear hcz8_0
   try clear hcz8_1
   try clear hcz8_2
   try clear hcz8_3
   try clear hfz6_0
   try clear hfz6_1
   try clear hfz6_2
   try clear hfz6_3
   try clear hfz8_0
   try clear hfz8_1
   try clear hfz8_2
   try clear hfz8_3
   obtain ⟨x4_1,x6_1,rfl,rfl,HA,HK1,BK493,HB⟩:=hrel
   cases gk with
   |zero=>exact absurd HA.out (by simp [impl_TreeHash.l0])
   |succ k1=>
    have H:=HA.out
    clear HA
    simp only [impl_TreeHash.l0] at H
    by_cases c10:x6_1 < (t495.size:Int)
    ·rw [if_pos c10] at H
     have c10b0:decide (x6_1 < (t495.size:Int))=true:=decide_eq_true c10
     clear c10
     by_cases c11:0≤x6_1
     ·rw [if_pos c11] at H
      have c11b0:decide (0≤x6_1)=true:=decide_eq_true c11
      clear c11
      have H':=A0_ H
      clear H
      have p12:0≤(x6_1:Int):=of_decide_eq_true (by first|(with_reducible assumption)|assumption)
      have q12:x6_1 < (t495.size:Int):=of_decide_eq_true (by first|(with_reducible assumption)|assumption)
      have hx12:=bt_at t495 x6_1
      replace p12:=eq_true p12
      replace q12:=eq_true q12
      go_wp2
      go_roundg k1
      case measure=>have:=HK1.out;omega
      case rel=>exact ⟨(Go.bits .and .i64 (wrap64 ((wrap64 (x4_1 * 33)) + (wrap64 (bt t495 x6_1)))) 4294967295),(wrap64 (x6_1 + 1)),(by first|rfl|(simp;done)|(simp [*];done)|(simp [bne];done)|(simp [bne, *];done)),(by first|rfl|(simp;done)|(simp [*];done)|(simp [bne];done)|(simp [bne, *];done)),H',⟨by have:=HK1.out;omega⟩,⟨by (with_reducible repeat (first|refine blk_drewN ?_ _|refine blk_drew ?_|refine blk_alloc ?_ _));exact BK493.out⟩,⟨by repeat (first|(with_reducible first|exact HB.out|apply below_alloc|apply pw_below_drewN|apply below_drew1|refine below_set ?_ GE493.out)|exact HB.out)⟩⟩
     ·rw [if_neg c11] at H
      exact absurd H (by simp)
    ·rw [if_neg c10] at H
     have c10b0:decide (x6_1 < (t495.size:Int))=false:=decide_eq_false c10
     clear c10
     simp only [Option.some.injEq,Prod.mk.injEq] at H
     obtain ⟨rfl,rfl⟩:=H
     go_wp2
     go_ret2
     exact ⟨by first|rfl|(simp [errW_none,errW_some] <;> rfl)|(simp [*,errW_none,errW_some] <;> rfl),by repeat (first|(with_reducible first|exact HB.out|apply below_alloc|apply pw_below_drewN|apply below_drew1|refine below_set ?_ GE493.out)|exact HB.out)⟩
 ·replace c3:=Bool.eq_false_iff.mpr c3
  subst c3
  have H1:(some (0,1))=some (r1,r2):=by rw [if_neg (show ¬ (false=true) by decide)] at H;exact H
  clear H
  have H:=H1
  clear H1
  simp only [Option.some.injEq,Prod.mk.injEq] at H
  obtain ⟨rfl,rfl⟩:=H
  go_enter Try.func14,Try.ntmps14
  go_wp2_with (first|((with_reducible refine gate_dst (N:=1) rfl ?_);refine box_event ?hg (N:=1) ?hd (cs:= #[.string a0_0, .string a0_1, .bool a0_2, .slice A0_3 l0_3.length c0_3]) (t:=26) ?hr ?_;(case hd=>rfl);(case hg=>rfl);(case hr=>first|(go_simp;done)|(go_simp;rfl));intro gb493 hg w13 hbox hb;have BK493:=A0_ (hbox);have GW493:=A0_ ((by rw [hg];exact (below_size HB.out):w.heap.size≤gb493));have GE493:=A0_ ((by rw [hg];exact (below_size HB.out):w.heap.size≤gb493));replace HB:=A0_ (below_step HB.out hb);clear hb hbox hg;obtain ⟨hcz14_0,hcz14_1,hcz14_2,hcz14_3⟩:=bc4_ BK493.out;obtain ⟨hfz14_0,hfz14_1,hfz14_2,hfz14_3⟩:=bf4_ BK493.out)|((with_reducible refine gate_callee (f:=45) rfl ?_);refine goesL_ (some 8) rfl rfl Try.func45 (by kernel_rfl) rfl #[.agg #[.string a0_0, .string a0_1, .bool a0_2, .slice A0_3 l0_3.length c0_3]] rfl (by (try simp only [List.map_toArray,List.map_cons,List.map_nil]);first|done|rfl|(simp only [List.length_drop,List.length_take];rfl)) ?_;(with_reducible refine (impl_TreeOK.calls k a0_0 a0_1 a0_2 _ _ l0_3 false _ ?side1 ?side2 A2.out).mono ?_);(case side1=>repeat (first|exact (Kd.C_below HR0_3.out HB.out)|(with_reducible refine Kd.C_alloc ?_ _)|(with_reducible refine Kd.C_drewN ?_ _)|(with_reducible refine Kd.C_drew ?_)));(case side2=>exact HC0_3.out);rintro e w15 ⟨rfl,hb⟩;refine ⟨_,rfl, ?_⟩;replace BK493:=A0_ (blk_below BK493.out hb);replace HB:=A0_ (below_step HB.out hb);(try clear hb);(try clear hb2);(try clear hk);(try clear hi)))
  go_ret2
  exact ⟨by first|rfl|(simp [errW_none,errW_some] <;> rfl)|(simp [*,errW_none,errW_some] <;> rfl),by repeat (first|(with_reducible first|exact HB.out|apply below_alloc|apply pw_below_drewN|apply below_drew1|refine below_set ?_ GE493.out)|exact HB.out)⟩
end Go.Proofs.Ytakpkmkjhndpjaa.Q
end
section
namespace Go.Proofs.Ytakpkmkjhndpjaa.Q
open Go.RowKit Go.Proofs.YtakpkmkjhndpjaaW.PrintWords Go.Proofs.YtakpkmkjhndpjaaW.PrintLast Go.Proofs.YtakpkmkjhndpjaaW.PrintMore
attribute [local go_sem] max2_int min2_int max_two min_two max_three min_three max_four min_four
set_option linter.unusedVariables false
set_option linter.unusedSimpArgs false
def spec_l01HashOn.l0:Nat→Int→ByteArray→Int→Option (Int)
 |0,_,_,_=>none
 |k + 1,x0,x1,x5=>if x5 < (x1.size:Int) then (if 0≤x5 then (spec_l01HashOn.l0 k (Int.tmod (wrap64 ((wrap64 (x0 * 33)) + (wrap64 (bt x1 x5)))) 4294967296) x1 (wrap64 (x5 + 1))) else (none)) else (some x0)
def spec_l01HashOn.f (k:Nat) (a0:Int) (a1:ByteArray):Option (Int):=spec_l01HashOn.l0 k a0 a1 0
set_option maxHeartbeats 8000000 in
set_option maxRecDepth 100000 in
theorem spec_l01HashOn.calls (k:Nat) (a0:Int) (a1:ByteArray) (r:Int) (w:World) (h:spec_l01HashOn.f k a0 a1=some r):
  Calls Try.prog 50 #[.int .i64 a0, .string a1] w fun e w'=>e= .returned (.int .i64 r)∧Drawn0 w w':=by
 have H:(spec_l01HashOn.l0 k a0 a1 0)=some r:=h
 clear h
 have H':=A0_ H
 clear H
 go_enter Try.func50,Try.ntmps50
 go_wp2
 go_loopg [0,5] k (fun kq v0 v5 w'=> ∃ (x0_1:Int) (x5_1:Int),v0= .int .i64 x0_1∧v5= .int .i64 x5_1∧Aside0 (spec_l01HashOn.l0 kq x0_1 a1 x5_1=some r)∧Aside0 (kq≤k)∧Drawn0 w w')
 case atStart=>exact ⟨(a0),(0),(by first|rfl|(simp;done)|(simp [*];done)|(simp [bne];done)|(simp [bne, *];done)),(by first|rfl|(simp;done)|(simp [*];done)|(simp [bne];done)|(simp [bne, *];done)),H',⟨Nat.le_refl _⟩,by repeat (first|exact Drawn0.refl _|apply Drawn0.step)⟩
 case round=>
  clear H'
  try clear p2
  obtain ⟨x0_1,x5_1,rfl,rfl,HA,HK1,⟨m1,rfl⟩⟩:=hrel
  cases gk with
  |zero=>exact absurd HA.out (by simp [spec_l01HashOn.l0])
  |succ k1=>
   have H:=HA.out
   clear HA
   simp only [spec_l01HashOn.l0] at H
   by_cases c3:x5_1 < (a1.size:Int)
   ·rw [if_pos c3] at H
    have c3b0:decide (x5_1 < (a1.size:Int))=true:=decide_eq_true c3
    clear c3
    by_cases c4:0≤x5_1
    ·rw [if_pos c4] at H
     have c4b0:decide (0≤x5_1)=true:=decide_eq_true c4
     clear c4
     have H':=A0_ H
     clear H
     have p5:0≤(x5_1:Int):=of_decide_eq_true (by first|(with_reducible assumption)|assumption)
     have q5:x5_1 < (a1.size:Int):=of_decide_eq_true (by first|(with_reducible assumption)|assumption)
     have hx5:=bt_at a1 x5_1
     replace p5:=eq_true p5
     replace q5:=eq_true q5
     go_wp2
     go_roundg k1
     case measure=>have:=HK1.out;omega
     case rel=>exact ⟨(Int.tmod (wrap64 ((wrap64 (x0_1 * 33)) + (wrap64 (bt a1 x5_1)))) 4294967296),(wrap64 (x5_1 + 1)),(by first|rfl|(simp;done)|(simp [*];done)|(simp [bne];done)|(simp [bne, *];done)),(by first|rfl|(simp;done)|(simp [*];done)|(simp [bne];done)|(simp [bne, *];done)),H',⟨by have:=HK1.out;omega⟩,by repeat (first|exact Drawn0.refl _|apply Drawn0.step)⟩
    ·rw [if_neg c4] at H
     exact absurd H (by simp)
   ·rw [if_neg c3] at H
    have c3b0:decide (x5_1 < (a1.size:Int))=false:=decide_eq_false c3
    clear c3
    obtain rfl:=Option.some.inj H
    go_wp2
    go_ret
    exact ⟨by first|rfl|(simp;done)|(simp [*];done)|(simp [bne];done)|(simp [bne, *];done),by repeat (first|exact Drawn0.refl _|apply Drawn0.step)⟩
end Go.Proofs.Ytakpkmkjhndpjaa.Q
end
section
namespace Go.Proofs.Ytakpkmkjhndpjaa.Q
open Go.RowKit Go.Proofs.YtakpkmkjhndpjaaW.PrintWords Go.Proofs.YtakpkmkjhndpjaaW.PrintLast Go.Proofs.YtakpkmkjhndpjaaW.PrintMore
attribute [local go_sem] max2_int min2_int max_two min_two max_three min_three max_four min_four
set_option linter.unusedVariables false
set_option linter.unusedSimpArgs false
mutual
def spec_l01Quote.l0:Nat→ByteArray→List Int→Int→Option (ByteArray)
 |0,_,_,_=>none
 |k + 1,x0,x3,x4=>if x4 < (x0.size:Int) then (if 0≤x4 then (if (bt x0 x4)=34 then (spec_l01Quote.j1 k x0 x3 x4 (bt x0 x4) true) else (spec_l01Quote.j1 k x0 x3 x4 (bt x0 x4) ((bt x0 x4) == 92))) else (none)) else (if x3.length < 140737488355328 then (some (strOfNums (x3 ++ [34]))) else (none))
def spec_l01Quote.j1:Nat→ByteArray→List Int→Int→Int→Bool→Option (ByteArray)
 |0,_,_,_,_,_=>none
 |k + 1,x0,x3,x4,x5,x29=>if x29=true then ((some (([92,x5]:List Int):List Int)).bind fun y502=>(if x3.length + y502.length < 140737488355328 then (spec_l01Quote.l0 k x0 (x3 ++ y502) (wrap64 (x4 + 1))) else (none))) else (if x5 ≥ 32 then (if x5≤126 then (if x3.length < 140737488355328 then (spec_l01Quote.l0 k x0 (x3 ++ [x5]) (wrap64 (x4 + 1))) else (none)) else ((some (([92,(48 + ((Int.tdiv x5 100) % 256)) % 256,48 + (((Int.tdiv x5 10) % 256) % 10),(48 + (Int.tmod x5 10)) % 256]:List Int):List Int)).bind fun y511=>(if x3.length + y511.length < 140737488355328 then (spec_l01Quote.l0 k x0 (x3 ++ y511) (wrap64 (x4 + 1))) else (none)))) else ((some (([92,(48 + ((Int.tdiv x5 100) % 256)) % 256,48 + (((Int.tdiv x5 10) % 256) % 10),(48 + (Int.tmod x5 10)) % 256]:List Int):List Int)).bind fun y517=>(if x3.length + y517.length < 140737488355328 then (spec_l01Quote.l0 k x0 (x3 ++ y517) (wrap64 (x4 + 1))) else (none))))
end
def spec_l01Quote.f (k:Nat) (a0:ByteArray):Option (ByteArray):=spec_l01Quote.l0 k a0 (([34]:List Int)) 0
set_option maxHeartbeats 8000000 in
set_option maxRecDepth 100000 in
theorem spec_l01Quote.calls (k:Nat) (a0:ByteArray) (r:ByteArray) (w:World) (h:spec_l01Quote.f k a0=some r):
  Calls Try.prog 91 #[.string a0] w fun e w'=>e= .returned (.string r)∧Below w.heap.size w w':=by
 have HB:=A0_ (Below.refl w.heap.size w)
 have H:(spec_l01Quote.l0 k a0 (([34]:List Int)) 0)=some r:=h
 clear h
 obtain ⟨y496,hy496⟩: ∃ y_:List Int,y_=(([34]:List Int)):=⟨_,rfl⟩
 replace H:(spec_l01Quote.l0 k a0 y496 0)=some r:=by first|(rw [hy496];with_reducible exact H)|(have H2_:=(Option.bind_some _ _).symm.trans H;rw [hy496];with_reducible exact H2_)|(have H2_:=(Option.bind_some _ _).symm.trans H;with_reducible exact H2_)|with_reducible exact H|(rw [hy496];exact H)|exact H
 have Ny496:=A0_ hy496
 clear hy496
 have H':=A0_ H
 clear H
 go_enter Try.func91,Try.ntmps91
 go_wp2_with (first|((with_reducible refine gate_dst (N:=6) rfl ?_);refine Kd.R_lit (Kd.int .u8) _ 5 ?hg (N:=6) ?hd (xs:=([34]:List Int)) (inner:= [.int .u8 34]) (ok:=fun _=>True) (okp:=fun _=>True) ?hr ?hp (fun _ hk=>hk) trivial (Below.refl _ _) (Nat.le_refl _) (by simp) ?_;(case hd=>rfl);(case hg=>rfl);(case hr=>first|(go_simp;done)|(go_simp;rfl));(case hp=>exact (Reps.one (show Kd.M (Kd.int .u8) _ _ _ 34 [.int .u8 34] from rfl) (Reps.none _ _)));intro v497 w2 ho3 hb hg_ hnew_;clear hg_ hnew_;(first|rw [← Ny496.out] at ho3|(simp only [Int.reduceToNat] at ho3;rw [← Ny496.out] at ho3));have HO498:=A0_ (Kd.R_lower ho3 (below_size HB.out));replace HB:=A0_ (below_step HB.out hb);clear hb ho3))
 go_loopg [3,4] k (fun kq v3 v4 w'=> ∃ (x3_1:List Int) (x4_1:Int),v4= .int .i64 x4_1∧Aside0 (spec_l01Quote.l0 kq a0 x3_1 x4_1=some r)∧Aside0 (kq≤k)∧Aside0 (Kd.R (Kd.int .u8) 5 w' w.heap.size (fun _=>True) v3 x3_1)∧Aside0 (Below w.heap.size w w'))
 case atStart=>exact ⟨(y496),(0),(by first|rfl|(simp;done)|(simp [*];done)|(simp [bne];done)|(simp [bne, *];done)),H',⟨Nat.le_refl _⟩,⟨by (with_reducible repeat (first|apply Kd.R_alloc|apply Kd.R_drewN|apply Kd.R_drew));exact HO498.out⟩,⟨by repeat (first|(with_reducible first|exact HB.out|apply below_alloc|apply pw_below_drewN|apply below_drew1)|exact HB.out)⟩⟩
 case round=>
  clear H'
  try clear p2
  obtain ⟨x3_1,x4_1,rfl,HA,HK1,HO_3,HB⟩:=hrel
  cases gk with
  |zero=>exact absurd HA.out (by simp [spec_l01Quote.l0])
  |succ k1=>
   have H:=HA.out
   clear HA
   simp only [spec_l01Quote.l0] at H
   by_cases c4:x4_1 < (a0.size:Int)
   ·rw [if_pos c4] at H
    have c4b0:decide (x4_1 < (a0.size:Int))=true:=decide_eq_true c4
    clear c4
    by_cases c5:0≤x4_1
    ·rw [if_pos c5] at H
     have c5b0:decide (0≤x4_1)=true:=decide_eq_true c5
     clear c5
     have HC7:=A0_ H
     clear H
     have p6:0≤(x4_1:Int):=of_decide_eq_true (by first|(with_reducible assumption)|assumption)
     have q6:x4_1 < (a0.size:Int):=of_decide_eq_true (by first|(with_reducible assumption)|assumption)
     have hx6:=bt_at a0 x4_1
     replace p6:=eq_true p6
     replace q6:=eq_true q6
     go_upto_region 7 with (fail)
     go_cut [29] (fun v29 wc=> ∃ (kq:Nat) (x29_6:Bool),v29= .bool x29_6∧Aside0 (spec_l01Quote.j1 kq a0 x3_1 x4_1 (bt a0 x4_1) x29_6=some r)∧Aside0 (kq≤k1)∧Aside0 (Kd.R (Kd.int .u8) 5 wc w.heap.size (fun _=>True) u3 x3_1)∧Aside0 (Below w.heap.size w wc))
     case first=>
      have H:=HC7.out
      clear HC7
      by_cases c8:(bt a0 x4_1)=34
      ·rw [if_pos c8] at H
       have c8b0:((bt a0 x4_1) == 34)=true:=beq_iff_eq.mpr c8
       have c8b1:((bt a0 x4_1) != 34)=false:=bne_eq_false_iff_eq.mpr c8
       clear c8
       (first|rw [c8b0] |(simp only [i64_w,i32_w];rw [c8b0])|skip)
       have H':=A0_ H
       clear H
       go_wp2
       go_meet
       case rel=>exact ⟨_,(true),(by first|rfl|(simp;done)|(simp [*];done)|(simp [bne];done)|(simp [bne, *];done)),H',⟨by have:=HK1.out;first|omega|exact Nat.le_refl _⟩,⟨by (with_reducible repeat (first|apply Kd.R_alloc|apply Kd.R_drewN|apply Kd.R_drew));exact HO_3.out⟩,⟨by repeat (first|(with_reducible first|exact HB.out|apply below_alloc|apply pw_below_drewN|apply below_drew1)|exact HB.out)⟩⟩
      ·rw [if_neg c8] at H
       have c8b0:((bt a0 x4_1) == 34)=false:=beq_eq_false_iff_ne.mpr c8
       have c8b1:((bt a0 x4_1) != 34)=true:=bne_iff_ne.mpr c8
       (first|rw [c8b0] |(simp only [i64_w,i32_w];rw [c8b0])|skip)
       have H':=A0_ H
       clear H
       go_wp2
       go_meet
       case rel=>exact ⟨_,(((bt a0 x4_1) == 92)),(by first|rfl|(simp;done)|(simp [*];done)|(simp [bne];done)|(simp [bne, *];done)),H',⟨by have:=HK1.out;first|omega|exact Nat.le_refl _⟩,⟨by (with_reducible repeat (first|apply Kd.R_alloc|apply Kd.R_drewN|apply Kd.R_drew));exact HO_3.out⟩,⟨by repeat (first|(with_reducible first|exact HB.out|apply below_alloc|apply pw_below_drewN|apply below_drew1)|exact HB.out)⟩⟩
     case rest=>
      clear HC7
      try clear p2
      try clear c4
      try clear c4b0
      try clear c5
      try clear c5b0
      try clear p6
      try clear q6
      try clear hx6
      try clear c8
      try clear c8b0
      try clear c8b1
      try clear p2
      try clear p6
      try clear q6
      obtain ⟨kq,x29_6,rfl,HA,HJ6,HO_3,HB⟩:=hcut
      cases kq with
      |zero=>exact absurd HA.out (by simp [spec_l01Quote.j1])
      |succ kj6=>
       have H:=HA.out
       clear HA
       simp only [spec_l01Quote.j1] at H
       by_cases c9:x29_6=true
       ·subst c9
        have H1:((some (([92,(bt a0 x4_1)]:List Int):List Int)).bind fun y502=>(if x3_1.length + y502.length < 140737488355328 then (spec_l01Quote.l0 kj6 a0 (x3_1 ++ y502) (wrap64 (x4_1 + 1))) else (none)))=some r:=by rw [if_pos rfl] at H;exact H
        clear H
        have H:=H1
        clear H1
        obtain ⟨y502,hy502⟩: ∃ y_:List Int,y_=(([92,(bt a0 x4_1)]:List Int)):=⟨_,rfl⟩
        replace H:(if x3_1.length + y502.length < 140737488355328 then (spec_l01Quote.l0 kj6 a0 (x3_1 ++ y502) (wrap64 (x4_1 + 1))) else (none))=some r:=by first|(rw [hy502];with_reducible exact H)|(have H2_:=(Option.bind_some _ _).symm.trans H;rw [hy502];with_reducible exact H2_)|(have H2_:=(Option.bind_some _ _).symm.trans H;with_reducible exact H2_)|with_reducible exact H|(rw [hy502];exact H)|exact H
        have Ny502:=A0_ hy502
        clear hy502
        by_cases c10:x3_1.length + y502.length < 140737488355328
        ·rw [if_pos c10] at H
         have LMc10:=A0_ c10
         clear c10
         obtain ⟨y505,hy505⟩: ∃ y_:List Int,y_=(x3_1 ++ y502):=⟨_,rfl⟩
         replace H:(spec_l01Quote.l0 kj6 a0 y505 (wrap64 (x4_1 + 1)))=some r:=by first|(rw [hy505];with_reducible exact H)|(have H2_:=(Option.bind_some _ _).symm.trans H;rw [hy505];with_reducible exact H2_)|(have H2_:=(Option.bind_some _ _).symm.trans H;with_reducible exact H2_)|with_reducible exact H|(rw [hy505];exact H)|exact H
         have Ny505:=A0_ hy505
         clear hy505
         have H':=A0_ H
         clear H
         go_wp2_with (first|((with_reducible refine gate_dst (N:=38) rfl ?_);refine Kd.R_lit (Kd.int .u8) _ 5 ?hg (N:=38) ?hd (xs:=([92,(bt a0 x4_1)]:List Int)) (inner:= [.int .u8 92, .int .u8 (bt a0 x4_1)]) (ok:=fun _=>True) (okp:=fun _=>True) ?hr ?hp (fun _ hk=>hk) trivial (Below.refl _ _) (Nat.le_refl _) (by simp) ?_;(case hd=>rfl);(case hg=>rfl);(case hr=>first|(go_simp;done)|(go_simp;rfl));(case hp=>exact (Reps.one (show Kd.M (Kd.int .u8) _ _ _ 92 [.int .u8 92] from rfl) (Reps.one (show Kd.M (Kd.int .u8) _ _ _ (bt a0 x4_1) [.int .u8 (bt a0 x4_1)] from rfl) (Reps.none _ _))));intro v503 w11 ho12 hb hg_ hnew_;clear hg_ hnew_;(first|rw [← Ny502.out] at ho12|(simp only [Int.reduceToNat] at ho12;rw [← Ny502.out] at ho12));have HO504:=A0_ (Kd.R_lower (Kd.R_new' ho12 (Kd.R_lt HO_3.out)) (below_size HB.out));replace HO_3:=A0_ (Kd.R_elder' HO_3.out (Kd.R_base ho12) hb);replace HB:=A0_ (below_step HB.out hb);clear hb ho12;obtain ⟨Ao14,co14,eo14⟩:=Kd.R_slice HO504.out;subst eo14)|((with_reducible refine gate_builtin (b:= .append) (xs:= #[.tmp 36, .tmp 38]) rfl ?_);at_builtin;refine Kd.R_append_rows (Kd.int .u8) (w0:=w) w.heap.size rfl (.tmp 36) (.tmp 38) 22 5 (.int .u8 0) 1 rfl Try.underlying22 info5 rfl (by decide) (by omega) u3 x3_1 y502 _ _ _ (fun k_=>some k_≠(.slice Ao14 y502.length co14:Value).ownBlock) (fun _=>False) rfl rfl ?aO ?aR (fun _ _ h=>h) (fun _ h=>h.elim) ?aF ?aB ?aS ?aL ?_;(case aR=>repeat (first|exact (Kd.R_reads' HO504.out).2.2|(with_reducible refine Kd.C_alloc ?_ _)|(with_reducible refine Kd.C_drewN ?_ _)|(with_reducible refine Kd.C_drew ?_)));(case aB=>exact HB.out);(case aF=>exact (fun k_ hk=>Kd.fresh' (Kd.R_lt HO504.out) k_ hk));(case aO=>exact (Kd.R_mono HO_3.out (fun _ hk=>hk.2)));(case aS=>exact (below_size HB.out));(case aL=>have:=LMc10.out;omega);intro v506 w13 ho hb hg hat;rw [← Ny505.out] at ho;have n0_:=A0_ (Kd.R_after (ok:=(fun _=>True)) HO504.out hg hat);have n1_:=A0_ (hb);have n2_:=A0_ (ho);clear HO504;clear HB;clear HO_3;have HO504:=n0_;have HB:=n1_;have HO507:=n2_;clear n0_ n1_ n2_;clear ho hb hg hat))
         go_roundg kj6
         case measure=>have:=HK1.out;have:=HJ6.out;omega
         case rel=>exact ⟨(y505),(wrap64 (x4_1 + 1)),(by first|rfl|(simp;done)|(simp [*];done)|(simp [bne];done)|(simp [bne, *];done)),H',⟨by have:=HK1.out;have:=HJ6.out;omega⟩,⟨by (with_reducible repeat (first|apply Kd.R_alloc|apply Kd.R_drewN|apply Kd.R_drew));exact Kd.R_mono HO507.out (fun _ hk=>trivial)⟩,⟨by repeat (first|(with_reducible first|exact HB.out|apply below_alloc|apply pw_below_drewN|apply below_drew1)|exact HB.out)⟩⟩
        ·rw [if_neg c10] at H
         exact absurd H (by simp)
       ·replace c9:=Bool.eq_false_iff.mpr c9
        subst c9
        have H1:(if (bt a0 x4_1) ≥ 32 then (if (bt a0 x4_1)≤126 then (if x3_1.length < 140737488355328 then (spec_l01Quote.l0 kj6 a0 (x3_1 ++ [(bt a0 x4_1)]) (wrap64 (x4_1 + 1))) else (none)) else ((some (([92,(48 + ((Int.tdiv (bt a0 x4_1) 100) % 256)) % 256,48 + (((Int.tdiv (bt a0 x4_1) 10) % 256) % 10),(48 + (Int.tmod (bt a0 x4_1) 10)) % 256]:List Int):List Int)).bind fun y511=>(if x3_1.length + y511.length < 140737488355328 then (spec_l01Quote.l0 kj6 a0 (x3_1 ++ y511) (wrap64 (x4_1 + 1))) else (none)))) else ((some (([92,(48 + ((Int.tdiv (bt a0 x4_1) 100) % 256)) % 256,48 + (((Int.tdiv (bt a0 x4_1) 10) % 256) % 10),(48 + (Int.tmod (bt a0 x4_1) 10)) % 256]:List Int):List Int)).bind fun y517=>(if x3_1.length + y517.length < 140737488355328 then (spec_l01Quote.l0 kj6 a0 (x3_1 ++ y517) (wrap64 (x4_1 + 1))) else (none))))=some r:=by rw [if_neg (show ¬ (false=true) by decide)] at H;exact H
        clear H
        have H:=H1
        clear H1
        by_cases c15:(bt a0 x4_1) ≥ 32
        ·rw [if_pos c15] at H
         have c15b0:decide (32≤(bt a0 x4_1))=true:=decide_eq_true c15
         clear c15
         by_cases c16:(bt a0 x4_1)≤126
         ·rw [if_pos c16] at H
          have c16b0:decide ((bt a0 x4_1)≤126)=true:=decide_eq_true c16
          clear c16
          by_cases c17:x3_1.length < 140737488355328
          ·rw [if_pos c17] at H
           have LMc17:=A0_ c17
           clear c17
           obtain ⟨y508,hy508⟩: ∃ y_:List Int,y_=(x3_1 ++ [(bt a0 x4_1)]):=⟨_,rfl⟩
           replace H:(spec_l01Quote.l0 kj6 a0 y508 (wrap64 (x4_1 + 1)))=some r:=by first|(rw [hy508];with_reducible exact H)|(have H2_:=(Option.bind_some _ _).symm.trans H;rw [hy508];with_reducible exact H2_)|(have H2_:=(Option.bind_some _ _).symm.trans H;with_reducible exact H2_)|with_reducible exact H|(rw [hy508];exact H)|exact H
           have Ny508:=A0_ hy508
           clear hy508
           have H':=A0_ H
           clear H
           go_wp2_with (first|((with_reducible refine gate_builtin (b:= .append) (xs:= #[.tmp 47, .tmp 49]) rfl ?_);at_builtin;refine Kd.R_append (Kd.int .u8) (w0:=w) w.heap.size rfl (.tmp 47) (.tmp 49) 22 5 (.int .u8 0) 1 rfl Try.underlying22 info5 rfl (by decide) (by omega) u3 x3_1 (bt a0 x4_1) [.int .u8 (bt a0 x4_1)] (fun _=>True) (fun _=>False) rfl rfl ?aP (fun _ hk=>hk.elim) ?aF ?aO ?aB ?aS ?aL ?_;(case aP=>exact rfl);(case aB=>exact HB.out);(case aF=>exact (fun _ _=>trivial));(case aO=>exact HO_3.out);(case aS=>exact (below_size HB.out));(case aL=>have:=LMc17.out;omega);intro v509 w18 ho hb hg hat;rw [← Ny508.out] at ho;have n0_:=A0_ (hb);have n1_:=A0_ (ho);clear HB;clear HO_3;have HB:=n0_;have HO510:=n1_;clear n0_ n1_;clear ho hb hg hat))
           go_roundg kj6
           case measure=>have:=HK1.out;have:=HJ6.out;omega
           case rel=>exact ⟨(y508),(wrap64 (x4_1 + 1)),(by first|rfl|(simp;done)|(simp [*];done)|(simp [bne];done)|(simp [bne, *];done)),H',⟨by have:=HK1.out;have:=HJ6.out;omega⟩,⟨by (with_reducible repeat (first|apply Kd.R_alloc|apply Kd.R_drewN|apply Kd.R_drew));exact HO510.out⟩,⟨by repeat (first|(with_reducible first|exact HB.out|apply below_alloc|apply pw_below_drewN|apply below_drew1)|exact HB.out)⟩⟩
          ·rw [if_neg c17] at H
           exact absurd H (by simp)
         ·rw [if_neg c16] at H
          have c16b0:decide ((bt a0 x4_1)≤126)=false:=decide_eq_false c16
          clear c16
          obtain ⟨y511,hy511⟩: ∃ y_:List Int,y_=(([92,(48 + ((Int.tdiv (bt a0 x4_1) 100) % 256)) % 256,48 + (((Int.tdiv (bt a0 x4_1) 10) % 256) % 10),(48 + (Int.tmod (bt a0 x4_1) 10)) % 256]:List Int)):=⟨_,rfl⟩
          replace H:(if x3_1.length + y511.length < 140737488355328 then (spec_l01Quote.l0 kj6 a0 (x3_1 ++ y511) (wrap64 (x4_1 + 1))) else (none))=some r:=by first|(rw [hy511];with_reducible exact H)|(have H2_:=(Option.bind_some _ _).symm.trans H;rw [hy511];with_reducible exact H2_)|(have H2_:=(Option.bind_some _ _).symm.trans H;with_reducible exact H2_)|with_reducible exact H|(rw [hy511];exact H)|exact H
          have Ny511:=A0_ hy511
          clear hy511
          by_cases c19:x3_1.length + y511.length < 140737488355328
          ·rw [if_pos c19] at H
           have LMc19:=A0_ c19
           clear c19
           obtain ⟨y514,hy514⟩: ∃ y_:List Int,y_=(x3_1 ++ y511):=⟨_,rfl⟩
           replace H:(spec_l01Quote.l0 kj6 a0 y514 (wrap64 (x4_1 + 1)))=some r:=by first|(rw [hy514];with_reducible exact H)|(have H2_:=(Option.bind_some _ _).symm.trans H;rw [hy514];with_reducible exact H2_)|(have H2_:=(Option.bind_some _ _).symm.trans H;with_reducible exact H2_)|with_reducible exact H|(rw [hy514];exact H)|exact H
           have Ny514:=A0_ hy514
           clear hy514
           have H':=A0_ H
           clear H
           go_wp2_with (first|((with_reducible refine gate_dst (N:=27) rfl ?_);refine Kd.R_lit (Kd.int .u8) _ 5 ?hg (N:=27) ?hd (xs:=([92,(48 + ((Int.tdiv (bt a0 x4_1) 100) % 256)) % 256,48 + (((Int.tdiv (bt a0 x4_1) 10) % 256) % 10),(48 + (Int.tmod (bt a0 x4_1) 10)) % 256]:List Int)) (inner:= [.int .u8 92, .int .u8 ((48 + ((Int.tdiv (bt a0 x4_1) 100) % 256)) % 256), .int .u8 (48 + (((Int.tdiv (bt a0 x4_1) 10) % 256) % 10)), .int .u8 ((48 + (Int.tmod (bt a0 x4_1) 10)) % 256)]) (ok:=fun _=>True) (okp:=fun _=>True) ?hr ?hp (fun _ hk=>hk) trivial (Below.refl _ _) (Nat.le_refl _) (by simp) ?_;(case hd=>rfl);(case hg=>rfl);(case hr=>first|(go_simp;done)|(go_simp;rfl));(case hp=>exact (Reps.one (show Kd.M (Kd.int .u8) _ _ _ 92 [.int .u8 92] from rfl) (Reps.one (show Kd.M (Kd.int .u8) _ _ _ ((48 + ((Int.tdiv (bt a0 x4_1) 100) % 256)) % 256) [.int .u8 ((48 + ((Int.tdiv (bt a0 x4_1) 100) % 256)) % 256)] from rfl) (Reps.one (show Kd.M (Kd.int .u8) _ _ _ (48 + (((Int.tdiv (bt a0 x4_1) 10) % 256) % 10)) [.int .u8 (48 + (((Int.tdiv (bt a0 x4_1) 10) % 256) % 10))] from rfl) (Reps.one (show Kd.M (Kd.int .u8) _ _ _ ((48 + (Int.tmod (bt a0 x4_1) 10)) % 256) [.int .u8 ((48 + (Int.tmod (bt a0 x4_1) 10)) % 256)] from rfl) (Reps.none _ _))))));intro v512 w20 ho21 hb hg_ hnew_;clear hg_ hnew_;(first|rw [← Ny511.out] at ho21|(simp only [Int.reduceToNat] at ho21;rw [← Ny511.out] at ho21));have HO513:=A0_ (Kd.R_lower (Kd.R_new' ho21 (Kd.R_lt HO_3.out)) (below_size HB.out));replace HO_3:=A0_ (Kd.R_elder' HO_3.out (Kd.R_base ho21) hb);replace HB:=A0_ (below_step HB.out hb);clear hb ho21;obtain ⟨Ao23,co23,eo23⟩:=Kd.R_slice HO513.out;subst eo23)|((with_reducible refine gate_builtin (b:= .append) (xs:= #[.tmp 16, .tmp 27]) rfl ?_);at_builtin;refine Kd.R_append_rows (Kd.int .u8) (w0:=w) w.heap.size rfl (.tmp 16) (.tmp 27) 22 5 (.int .u8 0) 1 rfl Try.underlying22 info5 rfl (by decide) (by omega) u3 x3_1 y511 _ _ _ (fun k_=>some k_≠(.slice Ao23 y511.length co23:Value).ownBlock) (fun _=>False) rfl rfl ?aO ?aR (fun _ _ h=>h) (fun _ h=>h.elim) ?aF ?aB ?aS ?aL ?_;(case aR=>repeat (first|exact (Kd.R_reads' HO513.out).2.2|(with_reducible refine Kd.C_alloc ?_ _)|(with_reducible refine Kd.C_drewN ?_ _)|(with_reducible refine Kd.C_drew ?_)));(case aB=>exact HB.out);(case aF=>exact (fun k_ hk=>Kd.fresh' (Kd.R_lt HO513.out) k_ hk));(case aO=>exact (Kd.R_mono HO_3.out (fun _ hk=>hk.2)));(case aS=>exact (below_size HB.out));(case aL=>have:=LMc19.out;omega);intro v515 w22 ho hb hg hat;rw [← Ny514.out] at ho;have n0_:=A0_ (Kd.R_after (ok:=(fun _=>True)) HO513.out hg hat);have n1_:=A0_ (hb);have n2_:=A0_ (ho);clear HO513;clear HB;clear HO_3;have HO513:=n0_;have HB:=n1_;have HO516:=n2_;clear n0_ n1_ n2_;clear ho hb hg hat))
           go_roundg kj6
           case measure=>have:=HK1.out;have:=HJ6.out;omega
           case rel=>exact ⟨(y514),(wrap64 (x4_1 + 1)),(by first|rfl|(simp;done)|(simp [*];done)|(simp [bne];done)|(simp [bne, *];done)),H',⟨by have:=HK1.out;have:=HJ6.out;omega⟩,⟨by (with_reducible repeat (first|apply Kd.R_alloc|apply Kd.R_drewN|apply Kd.R_drew));exact Kd.R_mono HO516.out (fun _ hk=>trivial)⟩,⟨by repeat (first|(with_reducible first|exact HB.out|apply below_alloc|apply pw_below_drewN|apply below_drew1)|exact HB.out)⟩⟩
          ·rw [if_neg c19] at H
           exact absurd H (by simp)
        ·rw [if_neg c15] at H
         have c15b0:decide (32≤(bt a0 x4_1))=false:=decide_eq_false c15
         clear c15
         obtain ⟨y517,hy517⟩: ∃ y_:List Int,y_=(([92,(48 + ((Int.tdiv (bt a0 x4_1) 100) % 256)) % 256,48 + (((Int.tdiv (bt a0 x4_1) 10) % 256) % 10),(48 + (Int.tmod (bt a0 x4_1) 10)) % 256]:List Int)):=⟨_,rfl⟩
         replace H:(if x3_1.length + y517.length < 140737488355328 then (spec_l01Quote.l0 kj6 a0 (x3_1 ++ y517) (wrap64 (x4_1 + 1))) else (none))=some r:=by first|(rw [hy517];with_reducible exact H)|(have H2_:=(Option.bind_some _ _).symm.trans H;rw [hy517];with_reducible exact H2_)|(have H2_:=(Option.bind_some _ _).symm.trans H;with_reducible exact H2_)|with_reducible exact H|(rw [hy517];exact H)|exact H
         have Ny517:=A0_ hy517
         clear hy517
         by_cases c24:x3_1.length + y517.length < 140737488355328
         ·rw [if_pos c24] at H
          have LMc24:=A0_ c24
          clear c24
          obtain ⟨y520,hy520⟩: ∃ y_:List Int,y_=(x3_1 ++ y517):=⟨_,rfl⟩
          replace H:(spec_l01Quote.l0 kj6 a0 y520 (wrap64 (x4_1 + 1)))=some r:=by first|(rw [hy520];with_reducible exact H)|(have H2_:=(Option.bind_some _ _).symm.trans H;rw [hy520];with_reducible exact H2_)|(have H2_:=(Option.bind_some _ _).symm.trans H;with_reducible exact H2_)|with_reducible exact H|(rw [hy520];exact H)|exact H
          have Ny520:=A0_ hy520
          clear hy520
          have H':=A0_ H
          clear H
          go_wp2_with (first|((with_reducible refine gate_dst (N:=27) rfl ?_);refine Kd.R_lit (Kd.int .u8) _ 5 ?hg (N:=27) ?hd (xs:=([92,(48 + ((Int.tdiv (bt a0 x4_1) 100) % 256)) % 256,48 + (((Int.tdiv (bt a0 x4_1) 10) % 256) % 10),(48 + (Int.tmod (bt a0 x4_1) 10)) % 256]:List Int)) (inner:= [.int .u8 92, .int .u8 ((48 + ((Int.tdiv (bt a0 x4_1) 100) % 256)) % 256), .int .u8 (48 + (((Int.tdiv (bt a0 x4_1) 10) % 256) % 10)), .int .u8 ((48 + (Int.tmod (bt a0 x4_1) 10)) % 256)]) (ok:=fun _=>True) (okp:=fun _=>True) ?hr ?hp (fun _ hk=>hk) trivial (Below.refl _ _) (Nat.le_refl _) (by simp) ?_;(case hd=>rfl);(case hg=>rfl);(case hr=>first|(go_simp;done)|(go_simp;rfl));(case hp=>exact (Reps.one (show Kd.M (Kd.int .u8) _ _ _ 92 [.int .u8 92] from rfl) (Reps.one (show Kd.M (Kd.int .u8) _ _ _ ((48 + ((Int.tdiv (bt a0 x4_1) 100) % 256)) % 256) [.int .u8 ((48 + ((Int.tdiv (bt a0 x4_1) 100) % 256)) % 256)] from rfl) (Reps.one (show Kd.M (Kd.int .u8) _ _ _ (48 + (((Int.tdiv (bt a0 x4_1) 10) % 256) % 10)) [.int .u8 (48 + (((Int.tdiv (bt a0 x4_1) 10) % 256) % 10))] from rfl) (Reps.one (show Kd.M (Kd.int .u8) _ _ _ ((48 + (Int.tmod (bt a0 x4_1) 10)) % 256) [.int .u8 ((48 + (Int.tmod (bt a0 x4_1) 10)) % 256)] from rfl) (Reps.none _ _))))));intro v518 w25 ho26 hb hg_ hnew_;clear hg_ hnew_;(first|rw [← Ny517.out] at ho26|(simp only [Int.reduceToNat] at ho26;rw [← Ny517.out] at ho26));have HO519:=A0_ (Kd.R_lower (Kd.R_new' ho26 (Kd.R_lt HO_3.out)) (below_size HB.out));replace HO_3:=A0_ (Kd.R_elder' HO_3.out (Kd.R_base ho26) hb);replace HB:=A0_ (below_step HB.out hb);clear hb ho26;obtain ⟨Ao28,co28,eo28⟩:=Kd.R_slice HO519.out;subst eo28)|((with_reducible refine gate_builtin (b:= .append) (xs:= #[.tmp 16, .tmp 27]) rfl ?_);at_builtin;refine Kd.R_append_rows (Kd.int .u8) (w0:=w) w.heap.size rfl (.tmp 16) (.tmp 27) 22 5 (.int .u8 0) 1 rfl Try.underlying22 info5 rfl (by decide) (by omega) u3 x3_1 y517 _ _ _ (fun k_=>some k_≠(.slice Ao28 y517.length co28:Value).ownBlock) (fun _=>False) rfl rfl ?aO ?aR (fun _ _ h=>h) (fun _ h=>h.elim) ?aF ?aB ?aS ?aL ?_;(case aR=>repeat (first|exact (Kd.R_reads' HO519.out).2.2|(with_reducible refine Kd.C_alloc ?_ _)|(with_reducible refine Kd.C_drewN ?_ _)|(with_reducible refine Kd.C_drew ?_)));(case aB=>exact HB.out);(case aF=>exact (fun k_ hk=>Kd.fresh' (Kd.R_lt HO519.out) k_ hk));(case aO=>exact (Kd.R_mono HO_3.out (fun _ hk=>hk.2)));(case aS=>exact (below_size HB.out));(case aL=>have:=LMc24.out;omega);intro v521 w27 ho hb hg hat;rw [← Ny520.out] at ho;have n0_:=A0_ (Kd.R_after (ok:=(fun _=>True)) HO519.out hg hat);have n1_:=A0_ (hb);have n2_:=A0_ (ho);clear HO519;clear HB;clear HO_3;have HO519:=n0_;have HB:=n1_;have HO522:=n2_;clear n0_ n1_ n2_;clear ho hb hg hat))
          go_roundg kj6
          case measure=>have:=HK1.out;have:=HJ6.out;omega
          case rel=>exact ⟨(y520),(wrap64 (x4_1 + 1)),(by first|rfl|(simp;done)|(simp [*];done)|(simp [bne];done)|(simp [bne, *];done)),H',⟨by have:=HK1.out;have:=HJ6.out;omega⟩,⟨by (with_reducible repeat (first|apply Kd.R_alloc|apply Kd.R_drewN|apply Kd.R_drew));exact Kd.R_mono HO522.out (fun _ hk=>trivial)⟩,⟨by repeat (first|(with_reducible first|exact HB.out|apply below_alloc|apply pw_below_drewN|apply below_drew1)|exact HB.out)⟩⟩
         ·rw [if_neg c24] at H
          exact absurd H (by simp)
    ·rw [if_neg c5] at H
     exact absurd H (by simp)
   ·rw [if_neg c4] at H
    have c4b0:decide (x4_1 < (a0.size:Int))=false:=decide_eq_false c4
    clear c4
    by_cases c29:x3_1.length < 140737488355328
    ·rw [if_pos c29] at H
     have LMc29:=A0_ c29
     clear c29
     obtain ⟨y499,hy499⟩: ∃ y_:List Int,y_=(x3_1 ++ [34]):=⟨_,rfl⟩
     replace H:(some (strOfNums y499))=some r:=by first|(rw [hy499];with_reducible exact H)|(have H2_:=(Option.bind_some _ _).symm.trans H;rw [hy499];with_reducible exact H2_)|(have H2_:=(Option.bind_some _ _).symm.trans H;with_reducible exact H2_)|with_reducible exact H|(rw [hy499];exact H)|exact H
     have Ny499:=A0_ hy499
     clear hy499
     obtain rfl:=Option.some.inj H
     go_wp2_with (first|((with_reducible refine gate_builtin (b:= .append) (xs:= #[.tmp 51, .tmp 52]) rfl ?_);at_builtin;refine Kd.R_append (Kd.int .u8) (w0:=w) w.heap.size rfl (.tmp 51) (.tmp 52) 22 5 (.int .u8 0) 1 rfl Try.underlying22 info5 rfl (by decide) (by omega) u3 x3_1 34 [.int .u8 34] (fun _=>True) (fun _=>False) rfl rfl ?aP (fun _ hk=>hk.elim) ?aF ?aO ?aB ?aS ?aL ?_;(case aP=>exact rfl);(case aB=>exact HB.out);(case aF=>exact (fun _ _=>trivial));(case aO=>exact HO_3.out);(case aS=>exact (below_size HB.out));(case aL=>have:=LMc29.out;omega);intro v500 w30 ho hb hg hat;rw [← Ny499.out] at ho;have n0_:=A0_ (hb);have n1_:=A0_ (ho);clear HB;clear HO_3;have HB:=n0_;have HO501:=n1_;clear n0_ n1_;clear ho hb hg hat;have hcv31:=own_string (P:=Try.prog) Try.underlying22 Try.underlying5 Try.underlying9 (Kd.own_of_R HO501.out)))
     go_ret
     exact ⟨by first|rfl|(simp [errW_none,errW_some] <;> rfl)|(simp [*,errW_none,errW_some] <;> rfl),by repeat (first|(with_reducible first|exact HB.out|apply below_alloc|apply pw_below_drewN|apply below_drew1)|exact HB.out)⟩
    ·rw [if_neg c29] at H
     exact absurd H (by simp)
end Go.Proofs.Ytakpkmkjhndpjaa.Q
end
section
namespace Go.Proofs.Ytakpkmkjhndpjaa.Q
open Go.RowKit Go.Proofs.YtakpkmkjhndpjaaW.PrintWords Go.Proofs.YtakpkmkjhndpjaaW.PrintLast Go.Proofs.YtakpkmkjhndpjaaW.PrintMore
attribute [local go_sem] max2_int min2_int max_two min_two max_three min_three max_four min_four
set_option linter.unusedVariables false
set_option linter.unusedSimpArgs false
mutual
def spec_l01Show.l0:Nat→ByteArray→Int→ByteArray→ByteArray→Bool→List (S26)→Option (ByteArray)
 |0,_,_,_,_,_,_=>none
 |k + 1,x3,x4,x524000,x524001,x524002,x524003=>if x4 < (x524003.length:Int) then (if x3.size + 1≤9223372036854775807 then (if 0≤x4 then ((spec_l01Show.f k ((rd_T26 x524003 x4).f0) ((rd_T26 x524003 x4).f1) ((rd_T26 x524003 x4).f2) ((rd_T26 x524003 x4).f3)).bind fun t526=>(if x3.size + 1 + t526.size≤9223372036854775807 then (spec_l01Show.l0 k ((x3 ++ (⟨#[32]⟩:ByteArray)) ++ t526) (wrap64 (x4 + 1)) x524000 x524001 x524002 x524003) else (none))) else (none)) else (none)) else (if x3.size + 1≤9223372036854775807 then (some (x3 ++ (⟨#[41]⟩:ByteArray))) else (none))
def spec_l01Show.f:Nat→ByteArray→ByteArray→Bool→List (S26)→Option (ByteArray)
 |0,_,_,_,_=>none
 |k + 1,a0_0,a0_1,a0_2,l0_3=>if a0_2=true then ((spec_l01Quote.f k a0_1).bind fun t524=>(if a0_0.size + t524.size≤9223372036854775807 then (some (a0_0 ++ t524)) else (none))) else (if 1 + a0_0.size≤9223372036854775807 then (spec_l01Show.l0 k ((⟨#[40]⟩:ByteArray) ++ a0_0) 0 a0_0 a0_1 a0_2 l0_3) else (none))
end
set_option maxHeartbeats 8000000 in
set_option maxRecDepth 100000 in
theorem spec_l01Show.calls (k:Nat): ∀ (a0_0:ByteArray) (a0_1:ByteArray) (a0_2:Bool) (A0_3:Option Addr) (c0_3:Nat) (l0_3:List (S26)) (r:ByteArray) (w:World) (hr0_3:Kd.C k26 w A0_3 l0_3.length l0_3) (hc0_3:l0_3.length≤c0_3) (h:spec_l01Show.f k a0_0 a0_1 a0_2 l0_3=some r),
  Calls Try.prog 51 #[.agg #[.string a0_0, .string a0_1, .bool a0_2, .slice A0_3 l0_3.length c0_3]] w fun e w'=>e= .returned (.string r)∧Below w.heap.size w w':=by
 induction k using Nat.strongRecOn with
 |_ k ih=>
 intro a0_0 a0_1 a0_2 A0_3 c0_3 l0_3 r w hr0_3 hc0_3 h
 cases k with
 |zero=>exact absurd h (by simp [spec_l01Show.f])
 |succ k=>
 simp only [spec_l01Show.f] at h
 have hu26:=Try.underlying26
 have HR0_3:=A0_ hr0_3
 have HC0_3:=A0_ hc0_3
 clear hr0_3 hc0_3
 have HB:=A0_ (Below.refl w.heap.size w)
 have H:(if a0_2=true then ((spec_l01Quote.f k a0_1).bind fun t524=>(if a0_0.size + t524.size≤9223372036854775807 then (some (a0_0 ++ t524)) else (none))) else (if 1 + a0_0.size≤9223372036854775807 then (spec_l01Show.l0 k ((⟨#[40]⟩:ByteArray) ++ a0_0) 0 a0_0 a0_1 a0_2 l0_3) else (none)))=some r:=h
 clear h
 by_cases c2:a0_2=true
 ·subst c2
  have H1:((spec_l01Quote.f k a0_1).bind fun t524=>(if a0_0.size + t524.size≤9223372036854775807 then (some (a0_0 ++ t524)) else (none)))=some r:=by rw [if_pos rfl] at H;exact H
  clear H
  have H:=H1
  clear H1
  replace H:=Option.bind_eq_some_iff.mp H
  obtain ⟨t524,A30,H⟩:=H
  replace H:(if a0_0.size + t524.size≤9223372036854775807 then (some (a0_0 ++ t524)) else (none))=some r:=H
  have A3:=A0_ A30
  clear A30
  by_cases c4:a0_0.size + t524.size≤9223372036854775807
  ·rw [if_pos c4] at H
   have c4b0:=eq_true c4
   have c4b1:decide (a0_0.size + t524.size≤9223372036854775807)=true:=decide_eq_true c4
   try have c4b2:(9223372036854775807 < a0_0.size + t524.size)=False:=eq_false (Nat.not_lt.2 c4)
   obtain rfl:=Option.some.inj H
   go_enter Try.func51,Try.ntmps51
   try go_wp2_with (first|((with_reducible refine gate_dst (N:=1) rfl ?_);refine box_event ?hg (N:=1) ?hd (cs:= #[.string a0_0, .string a0_1, .bool true, .slice A0_3 l0_3.length c0_3]) (t:=26) ?hr ?_;(case hd=>rfl);(case hg=>rfl);(case hr=>first|(go_simp;done)|(go_simp;rfl));intro gb523 hg w5 hbox hb;have BK523:=A0_ (hbox);have GW523:=A0_ ((by rw [hg];exact (below_size HB.out):w.heap.size≤gb523));have GE523:=A0_ ((by rw [hg];exact (below_size HB.out):w.heap.size≤gb523));replace HB:=A0_ (below_step HB.out hb);clear hb hbox hg;obtain ⟨hcz6_0,hcz6_1,hcz6_2,hcz6_3⟩:=bc4_ BK523.out;obtain ⟨hfz6_0,hfz6_1,hfz6_2,hfz6_3⟩:=bf4_ BK523.out))
   have n0_:=A0_ (blk_drew BK523.out)
   have n1_:=A0_ (below_drew1 HB.out)
   clear BK523
   clear HB
   have BK523:=n0_
   have HB:=n1_
   clear n0_ n1_
   refine start_ (n:=7) (S:=fun w'=>w'.cell? ⟨gb523,0,none⟩=some (.string a0_0)∧w'.cell? ⟨gb523,1,none⟩=some (.string a0_1)∧w'.cell? ⟨gb523,2,none⟩=some (.bool true)∧w'.cell? ⟨gb523,3,none⟩=some (.slice A0_3 l0_3.length c0_3)) (ds:= []) #[false,false,false,false,false,false,false] (by kernel_rfl) rfl rfl ⟨(blk_cell BK523.out 0).trans rfl,(blk_cell BK523.out 1).trans rfl,(blk_cell BK523.out 2).trans rfl,(blk_cell BK523.out 3).trans rfl⟩ (fun hHeld=> ?_)
   generalize w5.drew=w7 at BK523 HB hHeld ⊢
   refine pure_ (i:=0) (N:=some 7) (v:= ?_) (a':= ?_) #[true,false,false,false,false,false,false] rfl rfl (by kernel_rfl) (fun _ _ _ h=>h) (Or.inl ⟨by rfl, ?_⟩) ?_ ?_
   rotate_left
   ·intro w'
    go_simp
    with_reducible rfl
   rotate_left
   ·simp only [Act.put,List.setIfInBounds_toArray,List.set_cons_zero,List.set_cons_succ,i64_w,i32_w]
    rfl
   refine pure_ (i:=2) (N:=some 9) (v:= ?_) (a':= ?_) #[true,false,true,false,false,false,false] rfl rfl (by kernel_rfl) (fun _ _ _ h=>h) (Or.inl ⟨by rfl, ?_⟩) ?_ ?_
   rotate_left
   ·intro w'
    go_simp
    with_reducible rfl
   rotate_left
   ·simp only [Act.put,List.setIfInBounds_toArray,List.set_cons_zero,List.set_cons_succ,i64_w,i32_w]
    rfl
   refine take_ (i:=1) (N:=some 8) (v:= ?_) (a':= ?_) #[true,true,true,false,false,false,false] rfl rfl (by kernel_rfl) (fun _ _ _ h=>h) (Or.inl ⟨by rfl, ?_⟩) hHeld ?_ ?_
   rotate_left
   ·rintro w' ⟨s0,s1,s2,s3⟩
    go_simp
    with_reducible rfl
   rotate_left
   ·simp only [Act.put,List.setIfInBounds_toArray,List.set_cons_zero,List.set_cons_succ,i64_w,i32_w]
    rfl
   refine take_ (i:=3) (N:=some 10) (v:= ?_) (a':= ?_) #[true,true,true,true,false,false,false] rfl rfl (by kernel_rfl) (fun _ _ _ h=>h) (Or.inl ⟨by rfl, ?_⟩) hHeld ?_ ?_
   rotate_left
   ·rintro w' ⟨s0,s1,s2,s3⟩
    go_simp
    with_reducible rfl
   rotate_left
   ·simp only [Act.put,List.setIfInBounds_toArray,List.set_cons_zero,List.set_cons_succ,i64_w,i32_w]
    rfl
   refine one_ (i:=4) (N:=some 11) #[true,true,true,true,true,false,false] rfl rfl (by kernel_rfl) (by decide) (fun K hK=> ?_)
   refine goes_ Try.func91 (by kernel_rfl) rfl #[.string a0_1] (by rfl) rfl rfl (by (try simp only [List.map_toArray,List.map_cons,List.map_nil]);first|done|rfl|(simp only [List.length_drop,List.length_take];rfl)) ?_
   with_reducible refine (spec_l01Quote.calls k a0_1 t524 _ A3.out).mono ?_
   rintro e w8 ⟨rfl,hb⟩
   refine ⟨_,rfl, ?_⟩
   have n0_:=A0_ (blk_below BK523.out hb)
   have n1_:=A0_ (below_step HB.out hb)
   clear BK523
   clear HB
   have BK523:=n0_
   have HB:=n1_
   clear n0_ n1_
   (try clear hb)
   (try clear hb2)
   (try clear hk)
   (try clear hi)
   refine hK.out _ _ ⟨(blk_cell BK523.out 0).trans rfl,(blk_cell BK523.out 1).trans rfl,(blk_cell BK523.out 2).trans rfl,(blk_cell BK523.out 3).trans rfl⟩ (fun hHeld=> ?_)
   clear hK K
   refine norm_ (a':= ?_) ?_ ?_
   rotate_left
   ·show Act.put _ (some 11) _=_
    simp only [Act.put,List.setIfInBounds_toArray,List.set_cons_zero,List.set_cons_succ,i64_w,i32_w]
    rfl
   refine pure_ (i:=5) (N:=some 12) (v:= ?_) (a':= ?_) #[true,true,true,true,true,true,false] rfl rfl (by kernel_rfl) (fun _ _ _ h=>h) (Or.inl ⟨by rfl, ?_⟩) ?_ ?_
   rotate_left
   ·intro w'
    go_simp
    with_reducible rfl
   rotate_left
   ·simp only [Act.put,List.setIfInBounds_toArray,List.set_cons_zero,List.set_cons_succ,i64_w,i32_w]
    rfl
   refine pure_ (i:=6) (N:=some 2) (v:= ?_) (a':= ?_) #[true,true,true,true,true,true,true] rfl rfl (by kernel_rfl) (fun _ _ _ h=>h) (Or.inl ⟨by rfl, ?_⟩) ?_ ?_
   rotate_left
   ·intro w'
    go_simp
    with_reducible rfl
   rotate_left
   ·simp only [Act.put,List.setIfInBounds_toArray,List.set_cons_zero,List.set_cons_succ,i64_w,i32_w]
    rfl
   refine done_ (by kernel_rfl) ?_
   try go_wp2
   go_ret
   exact ⟨by first|rfl|(simp [errW_none,errW_some] <;> rfl)|(simp [*,errW_none,errW_some] <;> rfl),by repeat (first|(with_reducible first|exact HB.out|apply below_alloc|apply pw_below_drewN|apply below_drew1|refine below_set ?_ GE523.out)|exact HB.out)⟩
  ·rw [if_neg c4] at H
   exact absurd H (by simp)
 ·replace c2:=Bool.eq_false_iff.mpr c2
  subst c2
  have H1:(if 1 + a0_0.size≤9223372036854775807 then (spec_l01Show.l0 k ((⟨#[40]⟩:ByteArray) ++ a0_0) 0 a0_0 a0_1 false l0_3) else (none))=some r:=by rw [if_neg (show ¬ (false=true) by decide)] at H;exact H
  clear H
  have H:=H1
  clear H1
  by_cases c9:1 + a0_0.size≤9223372036854775807
  ·rw [if_pos c9] at H
   have c9b0:=eq_true c9
   have c9b1:decide (1 + a0_0.size≤9223372036854775807)=true:=decide_eq_true c9
   try have c9b2:(9223372036854775807 < 1 + a0_0.size)=False:=eq_false (Nat.not_lt.2 c9)
   have H':=A0_ H
   clear H
   go_enter Try.func51,Try.ntmps51
   go_wp2_with (first|((with_reducible refine gate_dst (N:=1) rfl ?_);refine box_event ?hg (N:=1) ?hd (cs:= #[.string a0_0, .string a0_1, .bool false, .slice A0_3 l0_3.length c0_3]) (t:=26) ?hr ?_;(case hd=>rfl);(case hg=>rfl);(case hr=>first|(go_simp;done)|(go_simp;rfl));intro gb523 hg w10 hbox hb;have BK523:=A0_ (hbox);have GW523:=A0_ ((by rw [hg];exact (below_size HB.out):w.heap.size≤gb523));have GE523:=A0_ ((by rw [hg];exact (below_size HB.out):w.heap.size≤gb523));replace HB:=A0_ (below_step HB.out hb);clear hb hbox hg;obtain ⟨hcz11_0,hcz11_1,hcz11_2,hcz11_3⟩:=bc4_ BK523.out;obtain ⟨hfz11_0,hfz11_1,hfz11_2,hfz11_3⟩:=bf4_ BK523.out))
   go_loopg [3,4] k (fun kq v3 v4 w'=> ∃ (x3_1:ByteArray) (x4_1:Int),v3= .string x3_1∧v4= .int .i64 x4_1∧Aside0 (spec_l01Show.l0 kq x3_1 x4_1 a0_0 a0_1 false l0_3=some r)∧Aside0 (kq≤k)∧Aside0 (w'.heap[gb523]?= some (.cells #[.string a0_0, .string a0_1, .bool false,(.slice A0_3 l0_3.length c0_3)] 26 (0,0)))∧Aside0 (Below w.heap.size w w'))
   case atStart=>exact ⟨((⟨#[40]⟩:ByteArray) ++ a0_0),(0),(by first|rfl|(simp;done)|(simp [*];done)|(simp [bne];done)|(simp [bne, *];done)),(by first|rfl|(simp;done)|(simp [*];done)|(simp [bne];done)|(simp [bne, *];done)),H',⟨Nat.le_refl _⟩,⟨by (with_reducible repeat (first|refine blk_drewN ?_ _|refine blk_drew ?_|refine blk_alloc ?_ _));exact BK523.out⟩,⟨by repeat (first|(with_reducible first|exact HB.out|apply below_alloc|apply pw_below_drewN|apply below_drew1|refine below_set ?_ GE523.out)|exact HB.out)⟩⟩
   case round=>
    clear H'
    try clear c2
    try clear p2
    try clear c4
    try clear c4b0
    try clear c4b1
    try clear c4b2
    try clear c5
    try clear c9
    try clear c9b0
    try clear c9b1
    try clear c9b2
    try clear hcz11_0
    try clear hcz11_1
    try clear hcz11_2
    try clear hcz11_3
    try clear hcz6_0
    try clear hcz6_1
    try clear hcz6_2
    try clear hcz6_3
    try clear hfz11_0
    try clear hfz11_1
    try clear hfz11_2
    try clear hfz11_3
    try clear hfz6_0
    try clear hfz6_1
    try clear hfz6_2
    try clear hfz6_3
    obtain ⟨x3_1,x4_1,rfl,rfl,HA,HK1,BK523,HB⟩:=hrel
    cases gk with
    |zero=>exact absurd HA.out (by simp [spec_l01Show.l0])
    |succ k1=>
     have H:=HA.out
     clear HA
     simp only [spec_l01Show.l0] at H
     by_cases c12:x4_1 < (l0_3.length:Int)
     ·rw [if_pos c12] at H
      have c12b0:decide (x4_1 < (l0_3.length:Int))=true:=decide_eq_true c12
      clear c12
      by_cases c13:x3_1.size + 1≤9223372036854775807
      ·rw [if_pos c13] at H
       have c13b0:=eq_true c13
       have c13b1:decide (x3_1.size + 1≤9223372036854775807)=true:=decide_eq_true c13
       try have c13b2:(9223372036854775807 < x3_1.size + 1)=False:=eq_false (Nat.not_lt.2 c13)
       by_cases c14:0≤x4_1
       ·rw [if_pos c14] at H
        have c14b0:decide (0≤x4_1)=true:=decide_eq_true c14
        clear c14
        replace H:=Option.bind_eq_some_iff.mp H
        obtain ⟨t526,A150,H⟩:=H
        replace H:(if x3_1.size + 1 + t526.size≤9223372036854775807 then (spec_l01Show.l0 k1 ((x3_1 ++ (⟨#[32]⟩:ByteArray)) ++ t526) (wrap64 (x4_1 + 1)) a0_0 a0_1 false l0_3) else (none))=some r:=H
        have A15:=A0_ A150
        clear A150
        by_cases c16:x3_1.size + 1 + t526.size≤9223372036854775807
        ·rw [if_pos c16] at H
         have c16b0:=eq_true c16
         have c16b1:decide (x3_1.size + 1 + t526.size≤9223372036854775807)=true:=decide_eq_true c16
         try have c16b2:(9223372036854775807 < x3_1.size + 1 + t526.size)=False:=eq_false (Nat.not_lt.2 c16)
         have H':=A0_ H
         clear H
         obtain ⟨hcz17_0,hcz17_1,hcz17_2,hcz17_3⟩:=bc4_ BK523.out
         obtain ⟨hfz17_0,hfz17_1,hfz17_2,hfz17_3⟩:=bf4_ BK523.out
         have p525:0≤(x4_1:Int):=of_decide_eq_true (by first|(with_reducible assumption)|assumption)
         have q525:x4_1 < (l0_3.length:Int):=of_decide_eq_true (by first|(with_reducible assumption)|assumption)
         obtain ⟨ad525,A525_3,c525_3,e525,hx525_0,hx525_1,hx525_2,hx525_3,hl525_3,hi525_3⟩:=at_T26 HR0_3.out x4_1 p525 q525
         have hk525_3:=hx525_3
         cases e525
         replace hx525_0:=(HB.out.cell (World.block_lt_of_cell? w _ hx525_0)).trans hx525_0
         replace hx525_1:=(HB.out.cell (World.block_lt_of_cell? w _ hx525_1)).trans hx525_1
         replace hx525_2:=(HB.out.cell (World.block_lt_of_cell? w _ hx525_2)).trans hx525_2
         replace hx525_3:=(HB.out.cell (World.block_lt_of_cell? w _ hx525_3)).trans hx525_3
         have HR525_3:=A0_ hi525_3
         have HC525_3:=A0_ hl525_3
         clear hi525_3 hl525_3
         replace p525:=eq_true p525
         replace q525:=eq_true q525
         go_wp2_with (first|((with_reducible refine gate_callee (f:=51) rfl ?_);refine goesL_ (some 30) rfl rfl Try.func51 (by kernel_rfl) rfl #[.agg #[.string ((rd_T26 l0_3 x4_1).f0), .string ((rd_T26 l0_3 x4_1).f1), .bool ((rd_T26 l0_3 x4_1).f2), .slice A525_3 ((rd_T26 l0_3 x4_1).f3).length c525_3]] rfl (by (try simp only [List.map_toArray,List.map_cons,List.map_nil]);first|done|rfl|(simp only [List.length_drop,List.length_take];rfl)) ?_;(with_reducible refine (ih k1 (by have:=HK1.out;omega) ((rd_T26 l0_3 x4_1).f0) ((rd_T26 l0_3 x4_1).f1) ((rd_T26 l0_3 x4_1).f2) _ _ ((rd_T26 l0_3 x4_1).f3) t526 _ ?side1 ?side2 A15.out).mono ?_);(case side1=>repeat (first|exact (Kd.C_below HR525_3.out HB.out)|(with_reducible refine Kd.C_alloc ?_ _)|(with_reducible refine Kd.C_drewN ?_ _)|(with_reducible refine Kd.C_drew ?_)));(case side2=>exact HC525_3.out);rintro e w18 ⟨rfl,hb⟩;refine ⟨_,rfl, ?_⟩;replace BK523:=A0_ (blk_below BK523.out hb);replace HB:=A0_ (below_step HB.out hb);(try clear hb);(try clear hb2);(try clear hk);(try clear hi)))
         go_roundg k1
         case measure=>have:=HK1.out;omega
         case rel=>exact ⟨((x3_1 ++ (⟨#[32]⟩:ByteArray)) ++ t526),(wrap64 (x4_1 + 1)),(by first|rfl|(simp;done)|(simp [*];done)|(simp [bne];done)|(simp [bne, *];done)),(by first|rfl|(simp;done)|(simp [*];done)|(simp [bne];done)|(simp [bne, *];done)),H',⟨by have:=HK1.out;omega⟩,⟨by (with_reducible repeat (first|refine blk_drewN ?_ _|refine blk_drew ?_|refine blk_alloc ?_ _));exact BK523.out⟩,⟨by repeat (first|(with_reducible first|exact HB.out|apply below_alloc|apply pw_below_drewN|apply below_drew1|refine below_set ?_ GE523.out)|exact HB.out)⟩⟩
        ·rw [if_neg c16] at H
         exact absurd H (by simp)
       ·rw [if_neg c14] at H
        exact absurd H (by simp)
      ·rw [if_neg c13] at H
       exact absurd H (by simp)
     ·rw [if_neg c12] at H
      have c12b0:decide (x4_1 < (l0_3.length:Int))=false:=decide_eq_false c12
      clear c12
      by_cases c19:x3_1.size + 1≤9223372036854775807
      ·rw [if_pos c19] at H
       have c19b0:=eq_true c19
       have c19b1:decide (x3_1.size + 1≤9223372036854775807)=true:=decide_eq_true c19
       try have c19b2:(9223372036854775807 < x3_1.size + 1)=False:=eq_false (Nat.not_lt.2 c19)
       obtain rfl:=Option.some.inj H
       obtain ⟨hcz20_0,hcz20_1,hcz20_2,hcz20_3⟩:=bc4_ BK523.out
       obtain ⟨hfz20_0,hfz20_1,hfz20_2,hfz20_3⟩:=bf4_ BK523.out
       go_wp2
       go_ret
       exact ⟨by first|rfl|(simp [errW_none,errW_some] <;> rfl)|(simp [*,errW_none,errW_some] <;> rfl),by repeat (first|(with_reducible first|exact HB.out|apply below_alloc|apply pw_below_drewN|apply below_drew1|refine below_set ?_ GE523.out)|exact HB.out)⟩
      ·rw [if_neg c19] at H
       exact absurd H (by simp)
  ·rw [if_neg c9] at H
   exact absurd H (by simp)
end Go.Proofs.Ytakpkmkjhndpjaa.Q
end
section
namespace Go.Proofs.Ytakpkmkjhndpjaa.Q
open Go.RowKit Go.Proofs.YtakpkmkjhndpjaaW.PrintWords Go.Proofs.YtakpkmkjhndpjaaW.PrintLast Go.Proofs.YtakpkmkjhndpjaaW.PrintMore
attribute [local go_sem] max2_int min2_int max_two min_two max_three min_three max_four min_four
set_option linter.unusedVariables false
set_option linter.unusedSimpArgs false
def spec_TreeHash.f (k:Nat) (a0_0:ByteArray) (a0_1:ByteArray) (a0_2:Bool) (l0_3:List (S26)):Option (Int × Int):=(spec_TreeOK.f k a0_0 a0_1 a0_2 l0_3).bind fun t528=>(if t528=true then ((spec_l01Show.f k a0_0 a0_1 a0_2 l0_3).bind fun t529=>((spec_l01HashOn.f k 5381 t529).bind fun t530=>(some (t530,0)))) else (some (0,1)))
set_option maxHeartbeats 8000000 in
set_option maxRecDepth 100000 in
theorem spec_TreeHash.calls (k:Nat) (a0_0:ByteArray) (a0_1:ByteArray) (a0_2:Bool) (A0_3:Option Addr) (c0_3:Nat) (l0_3:List (S26)) (r1:Int) (r2:Int) (w:World) (hr0_3:Kd.C k26 w A0_3 l0_3.length l0_3) (hc0_3:l0_3.length≤c0_3) (h:spec_TreeHash.f k a0_0 a0_1 a0_2 l0_3=some (r1,r2)):
  Calls Try.prog 15 #[.agg #[.string a0_0, .string a0_1, .bool a0_2, .slice A0_3 l0_3.length c0_3]] w fun e w'=>e= .returned (.tuple #[.int .i64 r1, .int .i64 r2])∧Below w.heap.size w w':=by
 have hu26:=Try.underlying26
 have HR0_3:=A0_ hr0_3
 have HC0_3:=A0_ hc0_3
 clear hr0_3 hc0_3
 have HB:=A0_ (Below.refl w.heap.size w)
 have H:((spec_TreeOK.f k a0_0 a0_1 a0_2 l0_3).bind fun t528=>(if t528=true then ((spec_l01Show.f k a0_0 a0_1 a0_2 l0_3).bind fun t529=>((spec_l01HashOn.f k 5381 t529).bind fun t530=>(some (t530,0)))) else (some (0,1))))=some (r1,r2):=h
 clear h
 replace H:=Option.bind_eq_some_iff.mp H
 obtain ⟨t528,A20,H⟩:=H
 replace H:(if t528=true then ((spec_l01Show.f k a0_0 a0_1 a0_2 l0_3).bind fun t529=>((spec_l01HashOn.f k 5381 t529).bind fun t530=>(some (t530,0)))) else (some (0,1)))=some (r1,r2):=H
 have A2:=A0_ A20
 clear A20
 by_cases c3:t528=true
 ·subst c3
  have H1:((spec_l01Show.f k a0_0 a0_1 a0_2 l0_3).bind fun t529=>((spec_l01HashOn.f k 5381 t529).bind fun t530=>(some (t530,0))))=some (r1,r2):=by rw [if_pos rfl] at H;exact H
  clear H
  have H:=H1
  clear H1
  replace H:=Option.bind_eq_some_iff.mp H
  obtain ⟨t529,A40,H⟩:=H
  replace H:((spec_l01HashOn.f k 5381 t529).bind fun t530=>(some (t530,0)))=some (r1,r2):=H
  have A4:=A0_ A40
  clear A40
  replace H:=Option.bind_eq_some_iff.mp H
  obtain ⟨t530,A50,H⟩:=H
  replace H:(some (t530,0))=some (r1,r2):=H
  have A5:=A0_ A50
  clear A50
  simp only [Option.some.injEq,Prod.mk.injEq] at H
  obtain ⟨rfl,rfl⟩:=H
  go_enter Try.func15,Try.ntmps15
  go_wp2_with (first|((with_reducible refine gate_dst (N:=1) rfl ?_);refine box_event ?hg (N:=1) ?hd (cs:= #[.string a0_0, .string a0_1, .bool a0_2, .slice A0_3 l0_3.length c0_3]) (t:=26) ?hr ?_;(case hd=>rfl);(case hg=>rfl);(case hr=>first|(go_simp;done)|(go_simp;rfl));intro gb527 hg w6 hbox hb;have n0_:=A0_ (below_step (by repeat (first|(with_reducible first|exact HB.out|apply below_alloc|apply pw_below_drewN|apply below_drew1)|exact HB.out)) hb);have n1_:=A0_ (hbox);have n2_:=A0_ ((by rw [hg];exact (below_size (by repeat (first|(with_reducible first|exact HB.out|apply below_alloc|apply pw_below_drewN|apply below_drew1)|exact HB.out))):w.heap.size≤gb527));have n3_:=A0_ ((by rw [hg];exact (below_size (by repeat (first|(with_reducible first|exact HB.out|apply below_alloc|apply pw_below_drewN|apply below_drew1)|exact HB.out))):w.heap.size≤gb527));clear HB;have HB:=n0_;have BK527:=n1_;have GW527:=n2_;have GE527:=n3_;clear n0_ n1_ n2_ n3_;clear hb hbox hg;obtain ⟨hcz7_0,hcz7_1,hcz7_2,hcz7_3⟩:=bc4_ BK527.out;obtain ⟨hfz7_0,hfz7_1,hfz7_2,hfz7_3⟩:=bf4_ BK527.out)|((with_reducible refine gate_callee (f:=41) rfl ?_);refine goesL_ (some 5) rfl rfl Try.func41 (by kernel_rfl) rfl #[.agg #[.string a0_0, .string a0_1, .bool a0_2, .slice A0_3 l0_3.length c0_3]] rfl (by (try simp only [List.map_toArray,List.map_cons,List.map_nil]);first|done|rfl|(simp only [List.length_drop,List.length_take];rfl)) ?_;(with_reducible refine (spec_TreeOK.calls k a0_0 a0_1 a0_2 _ _ l0_3 true _ ?side1 ?side2 A2.out).mono ?_);(case side1=>repeat (first|exact (Kd.C_below HR0_3.out HB.out)|(with_reducible refine Kd.C_alloc ?_ _)|(with_reducible refine Kd.C_drewN ?_ _)|(with_reducible refine Kd.C_drew ?_)));(case side2=>exact HC0_3.out);rintro e w8 ⟨rfl,hb⟩;refine ⟨_,rfl, ?_⟩;have n0_:=A0_ (blk_below (g:=gb527) (o:= .cells #[.string a0_0, .string a0_1, .bool a0_2, .slice A0_3 l0_3.length c0_3] 26 (0,0)) (by (with_reducible repeat (first|refine blk_drewN ?_ _|refine blk_drew ?_|refine blk_alloc ?_ _));exact BK527.out) hb);have n1_:=A0_ (below_step (by repeat (first|(with_reducible first|exact HB.out|apply below_alloc|apply pw_below_drewN|apply below_drew1|refine below_set ?_ GE527.out)|exact HB.out)) hb);clear BK527;clear HB;have BK527:=n0_;have HB:=n1_;clear n0_ n1_;(try clear hb);(try clear hb2);(try clear hk);(try clear hi);obtain ⟨hcz9_0,hcz9_1,hcz9_2,hcz9_3⟩:=bc4_ BK527.out;obtain ⟨hfz9_0,hfz9_1,hfz9_2,hfz9_3⟩:=bf4_ BK527.out)|((with_reducible refine gate_callee (f:=51) rfl ?_);refine goesL_ (some 8) rfl rfl Try.func51 (by kernel_rfl) rfl #[.agg #[.string a0_0, .string a0_1, .bool a0_2, .slice A0_3 l0_3.length c0_3]] rfl (by (try simp only [List.map_toArray,List.map_cons,List.map_nil]);first|done|rfl|(simp only [List.length_drop,List.length_take];rfl)) ?_;(with_reducible refine (spec_l01Show.calls k a0_0 a0_1 a0_2 _ _ l0_3 t529 _ ?side1 ?side2 A4.out).mono ?_);(case side1=>repeat (first|exact (Kd.C_below HR0_3.out HB.out)|(with_reducible refine Kd.C_alloc ?_ _)|(with_reducible refine Kd.C_drewN ?_ _)|(with_reducible refine Kd.C_drew ?_)));(case side2=>exact HC0_3.out);rintro e w10 ⟨rfl,hb⟩;refine ⟨_,rfl, ?_⟩;have n0_:=A0_ (blk_below (g:=gb527) (o:= .cells #[.string a0_0, .string a0_1, .bool a0_2, .slice A0_3 l0_3.length c0_3] 26 (0,0)) (by (with_reducible repeat (first|refine blk_drewN ?_ _|refine blk_drew ?_|refine blk_alloc ?_ _));exact BK527.out) hb);have n1_:=A0_ (below_step (by repeat (first|(with_reducible first|exact HB.out|apply below_alloc|apply pw_below_drewN|apply below_drew1|refine below_set ?_ GE527.out)|exact HB.out)) hb);clear BK527;clear HB;have BK527:=n0_;have HB:=n1_;clear n0_ n1_;(try clear hb);(try clear hb2);(try clear hk);(try clear hi))|((with_reducible refine gate_callee (f:=50) rfl ?_);refine goesL_ (some 9) rfl rfl Try.func50 (by kernel_rfl) rfl #[.int .i64 5381, .string t529] rfl (by (try simp only [List.map_toArray,List.map_cons,List.map_nil]);first|done|rfl|(simp only [List.length_drop,List.length_take];rfl)) ?_;(with_reducible refine (spec_l01HashOn.calls k 5381 t529 t530 _ A5.out).mono ?_);rintro e w' ⟨rfl,⟨nd,rfl⟩⟩;refine ⟨_,rfl, ?_⟩))
  go_ret2
  exact ⟨by first|rfl|(simp [errW_none,errW_some] <;> rfl)|(simp [*,errW_none,errW_some] <;> rfl),by repeat (first|(with_reducible first|exact HB.out|apply below_alloc|apply pw_below_drewN|apply below_drew1|refine below_set ?_ GE527.out)|exact HB.out)⟩
 ·replace c3:=Bool.eq_false_iff.mpr c3
  subst c3
  have H1:(some (0,1))=some (r1,r2):=by rw [if_neg (show ¬ (false=true) by decide)] at H;exact H
  clear H
  have H:=H1
  clear H1
  simp only [Option.some.injEq,Prod.mk.injEq] at H
  obtain ⟨rfl,rfl⟩:=H
  go_enter Try.func15,Try.ntmps15
  go_wp2_with (first|((with_reducible refine gate_dst (N:=1) rfl ?_);refine box_event ?hg (N:=1) ?hd (cs:= #[.string a0_0, .string a0_1, .bool a0_2, .slice A0_3 l0_3.length c0_3]) (t:=26) ?hr ?_;(case hd=>rfl);(case hg=>rfl);(case hr=>first|(go_simp;done)|(go_simp;rfl));intro gb527 hg w11 hbox hb;have n0_:=A0_ (below_step (by repeat (first|(with_reducible first|exact HB.out|apply below_alloc|apply pw_below_drewN|apply below_drew1)|exact HB.out)) hb);have n1_:=A0_ (hbox);have n2_:=A0_ ((by rw [hg];exact (below_size (by repeat (first|(with_reducible first|exact HB.out|apply below_alloc|apply pw_below_drewN|apply below_drew1)|exact HB.out))):w.heap.size≤gb527));have n3_:=A0_ ((by rw [hg];exact (below_size (by repeat (first|(with_reducible first|exact HB.out|apply below_alloc|apply pw_below_drewN|apply below_drew1)|exact HB.out))):w.heap.size≤gb527));clear HB;have HB:=n0_;have BK527:=n1_;have GW527:=n2_;have GE527:=n3_;clear n0_ n1_ n2_ n3_;clear hb hbox hg;obtain ⟨hcz12_0,hcz12_1,hcz12_2,hcz12_3⟩:=bc4_ BK527.out;obtain ⟨hfz12_0,hfz12_1,hfz12_2,hfz12_3⟩:=bf4_ BK527.out)|((with_reducible refine gate_callee (f:=41) rfl ?_);refine goesL_ (some 5) rfl rfl Try.func41 (by kernel_rfl) rfl #[.agg #[.string a0_0, .string a0_1, .bool a0_2, .slice A0_3 l0_3.length c0_3]] rfl (by (try simp only [List.map_toArray,List.map_cons,List.map_nil]);first|done|rfl|(simp only [List.length_drop,List.length_take];rfl)) ?_;(with_reducible refine (spec_TreeOK.calls k a0_0 a0_1 a0_2 _ _ l0_3 false _ ?side1 ?side2 A2.out).mono ?_);(case side1=>repeat (first|exact (Kd.C_below HR0_3.out HB.out)|(with_reducible refine Kd.C_alloc ?_ _)|(with_reducible refine Kd.C_drewN ?_ _)|(with_reducible refine Kd.C_drew ?_)));(case side2=>exact HC0_3.out);rintro e w13 ⟨rfl,hb⟩;refine ⟨_,rfl, ?_⟩;have n0_:=A0_ (blk_below (g:=gb527) (o:= .cells #[.string a0_0, .string a0_1, .bool a0_2, .slice A0_3 l0_3.length c0_3] 26 (0,0)) (by (with_reducible repeat (first|refine blk_drewN ?_ _|refine blk_drew ?_|refine blk_alloc ?_ _));exact BK527.out) hb);have n1_:=A0_ (below_step (by repeat (first|(with_reducible first|exact HB.out|apply below_alloc|apply pw_below_drewN|apply below_drew1|refine below_set ?_ GE527.out)|exact HB.out)) hb);clear BK527;clear HB;have BK527:=n0_;have HB:=n1_;clear n0_ n1_;(try clear hb);(try clear hb2);(try clear hk);(try clear hi)))
  go_ret2
  exact ⟨by first|rfl|(simp [errW_none,errW_some] <;> rfl)|(simp [*,errW_none,errW_some] <;> rfl),by repeat (first|(with_reducible first|exact HB.out|apply below_alloc|apply pw_below_drewN|apply below_drew1|refine below_set ?_ GE527.out)|exact HB.out)⟩
end Go.Proofs.Ytakpkmkjhndpjaa.Q
end
section
namespace Go.Proofs.Ytakpkmkjhndpjaa.Q
open Go.RowKit Go.Proofs.YtakpkmkjhndpjaaW.PrintWords Go.Proofs.YtakpkmkjhndpjaaW.PrintLast
def B4 (w:World) (g:Nat) (c0 c1 c2 c3:Value) (t:TypeId):Prop:=w.heap[g]?= some (.cells #[c0,c1,c2,c3] t (0,0))
theorem B4.raw {w:World} {g:Nat} {c0 c1 c2 c3:Value} {t:TypeId} (h:B4 w g c0 c1 c2 c3 t):
  w.cell? ⟨g,0,none⟩=some c0∧w.cell? ⟨g,1,none⟩=some c1∧w.cell? ⟨g,2,none⟩=some c2∧w.cell? ⟨g,3,none⟩=some c3∧
  w.frozen? ⟨g,0,none⟩=false∧w.frozen? ⟨g,1,none⟩=false∧w.frozen? ⟨g,2,none⟩=false∧w.frozen? ⟨g,3,none⟩=false:=
 ⟨(blk_cell h 0).trans rfl,(blk_cell h 1).trans rfl,(blk_cell h 2).trans rfl,(blk_cell h 3).trans rfl,blk_frozen h 0,blk_frozen h 1,blk_frozen h 2,blk_frozen h 3⟩
theorem B4.below {w w':World} {g:Nat} {c0 c1 c2 c3:Value} {t:TypeId} (h:B4 w g c0 c1 c2 c3 t) (hb:Below w.heap.size w w'):B4 w' g c0 c1 c2 c3 t:=blk_below h hb
def St4 (w:World) (g:Nat) (c0 c1 c2 c3:Value):World:=(((w.setCell ⟨g,0,none⟩ c0).setCell ⟨g,1,none⟩ c1).setCell ⟨g,2,none⟩ c2).setCell ⟨g,3,none⟩ c3
theorem B4.store {w:World} {g:Nat} {z0 z1 z2 z3:Value} {t:TypeId} (h:B4 w g z0 z1 z2 z3 t) (c0 c1 c2 c3:Value):B4 (St4 w g c0 c1 c2 c3) g c0 c1 c2 c3 t:=
 blk_put (blk_put (blk_put (blk_put h 0 c0 rfl) 1 c1 rfl) 2 c2 rfl) 3 c3 rfl
theorem B4.far {w:World} {g g':Nat} {z0 z1 z2 z3:Value} {t:TypeId} (h:B4 w g z0 z1 z2 z3 t) (hne:g≠g') (c0 c1 c2 c3:Value):B4 (St4 w g' c0 c1 c2 c3) g z0 z1 z2 z3 t:=
 blk_far (blk_far (blk_far (blk_far h (p:=⟨g',0,none⟩) hne c0) (p:=⟨g',1,none⟩) hne c1) (p:=⟨g',2,none⟩) hne c2) (p:=⟨g',3,none⟩) hne c3
theorem below_st4 {s w:World} {g:Nat} (h:Below s.heap.size s w) (hg:s.heap.size≤g) (c0 c1 c2 c3:Value):Below s.heap.size s (St4 w g c0 c1 c2 c3):=
 below_set (below_set (below_set (below_set h hg) hg) hg) hg
theorem box1 {s W w1 w2:World} {g:Nat} {z0 z1 z2 z3 c0 c1 c2 c3:Value} {t:TypeId} (hB:Below s.heap.size s W) (hg:g=W.heap.size) (hb:Below W.heap.size W w1)
  (hbox:w1.heap[g]?= some (.cells #[z0,z1,z2,z3] t (0,0))) (hw:w2=St4 w1 g c0 c1 c2 c3):Below s.heap.size s w2∧B4 w2 g c0 c1 c2 c3 t∧s.heap.size≤g:=by
 subst hw
 have hge:s.heap.size≤g:=by rw [hg];exact hB.size
 exact ⟨below_st4 (below_step hB hb) hge _ _ _ _,B4.store hbox _ _ _ _,hge⟩
theorem box2 {s W w1 w2 w3 w4:World} {g g':Nat} {z0 z1 z2 z3 c0 c1 c2 c3 y0 y1 y2 y3 d0 d1 d2 d3:Value} {t t':TypeId} (hB:Below s.heap.size s W) (hg:g=W.heap.size) (hb:Below W.heap.size W w1)
  (hbox:w1.heap[g]?= some (.cells #[z0,z1,z2,z3] t (0,0))) (hg':g'=w1.heap.size) (hb':Below w1.heap.size w1 w2) (hbox':w2.heap[g']?= some (.cells #[y0,y1,y2,y3] t' (0,0)))
  (hw:w3=St4 w2 g c0 c1 c2 c3) (hw':w4=St4 w3 g' d0 d1 d2 d3):Below s.heap.size s w4∧B4 w4 g c0 c1 c2 c3 t∧B4 w4 g' d0 d1 d2 d3 t'∧s.heap.size≤g∧s.heap.size≤g':=by
 subst hw hw'
 have hlt:g < w1.heap.size:=blk_lt hbox
 have hge:s.heap.size≤g:=by rw [hg];exact hB.size
 have hge':s.heap.size≤g':=by omega
 have hne:g≠g':=by omega
 exact ⟨below_st4 (below_st4 (below_step (below_step hB hb) hb') hge _ _ _ _) hge' _ _ _ _,B4.far (B4.store (blk_below hbox hb') _ _ _ _) hne _ _ _ _,B4.store (B4.far hbox' (fun e=>hne e.symm) _ _ _ _) _ _ _ _,hge,hge'⟩
theorem cell_b {w w':World} {a:Addr} {v:Value} (h:w.cell? a=some v) (hb:Below w.heap.size w w'):w'.cell? a=some v:=(hb.cell (World.block_lt_of_cell? w _ h)).trans h
theorem cell_drew {w:World} {a:Addr} {v:Value} (h:w.cell? a=some v):w.drew.cell? a=some v:=h
end Go.Proofs.Ytakpkmkjhndpjaa.Q
end
section
namespace Go.Proofs.Ytakpkmkjhndpjaa.Q
open Go.RowKit Go.Proofs.YtakpkmkjhndpjaaW.PrintWords Go.Proofs.YtakpkmkjhndpjaaW.PrintLast Go.Proofs.YtakpkmkjhndpjaaW.PrintMore
attribute [local go_sem] max2_int min2_int max_two min_two max_three min_three max_four min_four
set_option linter.unusedVariables false
set_option linter.unusedSimpArgs false
mutual
def laws_FnTreePut.j0:Nat→List Int→List Int→Int→Bool→ByteArray→ByteArray→Bool→List (S26)→ByteArray→ByteArray→Bool→List (S26)→Option (Bool)
 |0,_,_,_,_,_,_,_,_,_,_,_,_=>none
 |k + 1,x0,x4,x9,x55,x549000,x549001,x549002,x549003,x580000,x580001,x580002,x580003=>if x55=true then (some false) else (if x9=0 then ((spec_DrawTreePut.f k x0).bind fun bt581=>((impl_TreeAt.f k x580000 x580001 x580002 x580003 x4).bind fun bt598=>(if bt598.2.2.2.2=0 then ((laws_sameTree.f k bt598.1 bt598.2.1 bt598.2.2.1 bt598.2.2.2.1 x549000 x549001 x549002 x549003).bind fun t606=>(laws_FnTreePut.j1 k x4 (!t606) x580000 x580001 x580002 x580003 bt581.1 bt581.2.1 bt581.2.2.1 bt581.2.2.2.1)) else (laws_FnTreePut.j1 k x4 true x580000 x580001 x580002 x580003 bt581.1 bt581.2.1 bt581.2.2.1 bt581.2.2.2.1)))) else (some true))
def laws_FnTreePut.j1:Nat→List Int→Bool→ByteArray→ByteArray→Bool→List (S26)→ByteArray→ByteArray→Bool→List (S26)→Option (Bool)
 |0,_,_,_,_,_,_,_,_,_,_=>none
 |k + 1,x4,x77,x580000,x580001,x580002,x580003,x597000,x597001,x597002,x597003=>if x77=true then (some false) else (laws_FnTreePut.l0 k x4 0 x580000 x580001 x580002 x580003 x597000 x597001 x597002 x597003)
def laws_FnTreePut.l0:Nat→List Int→Int→ByteArray→ByteArray→Bool→List (S26)→ByteArray→ByteArray→Bool→List (S26)→Option (Bool)
 |0,_,_,_,_,_,_,_,_,_,_=>none
 |k + 1,x4,x14,x580000,x580001,x580002,x580003,x597000,x597001,x597002,x597003=>if x14 < (x597003.length:Int) then (laws_FnTreePut.j3 k x4 x14 (decide ((x4.length:Int) > 0)) x580000 x580001 x580002 x580003 x597000 x597001 x597002 x597003) else (laws_FnTreePut.j3 k x4 x14 false x580000 x580001 x580002 x580003 x597000 x597001 x597002 x597003)
def laws_FnTreePut.j3:Nat→List Int→Int→Bool→ByteArray→ByteArray→Bool→List (S26)→ByteArray→ByteArray→Bool→List (S26)→Option (Bool)
 |0,_,_,_,_,_,_,_,_,_,_,_=>none
 |k + 1,x4,x14,x87,x580000,x580001,x580002,x580003,x597000,x597001,x597002,x597003=>if x87=true then ((impl_TreeAt.f k x580000 x580001 x580002 x580003 (([x14]:List Int))).bind fun bt610=>(if bt610.2.2.2.2=0 then (if 0 < (x4.length:Int) then (if x14=(rd x4 0) then (laws_FnTreePut.l0 k x4 (wrap64 (x14 + 1)) x580000 x580001 x580002 x580003 x597000 x597001 x597002 x597003) else (if 0≤x14 then (if x14 < (x597003.length:Int) then ((laws_sameTree.f k bt610.1 bt610.2.1 bt610.2.2.1 bt610.2.2.2.1 ((rd_T26 x597003 x14).f0) ((rd_T26 x597003 x14).f1) ((rd_T26 x597003 x14).f2) ((rd_T26 x597003 x14).f3)).bind fun t620=>(if t620=true then (laws_FnTreePut.l0 k x4 (wrap64 (x14 + 1)) x580000 x580001 x580002 x580003 x597000 x597001 x597002 x597003) else (some false))) else (none)) else (none))) else (none)) else (some false))) else ((impl_TreeAt.f k x597000 x597001 x597002 x597003 x4).bind fun bt621=>(if bt621.2.2.2.2=0 then ((impl_TreePut.f k x580000 x580001 x580002 x580003 x4 bt621.1 bt621.2.1 bt621.2.2.1 bt621.2.2.2.1).bind fun bt629=>(if bt629.2.2.2.2=0 then ((laws_sameTree.f k bt629.1 bt629.2.1 bt629.2.2.1 bt629.2.2.2.1 x597000 x597001 x597002 x597003).bind fun t637=>(laws_FnTreePut.j4 k (!t637) x597000 x597001 x597002 x597003 bt629.1 bt629.2.1 bt629.2.2.1 bt629.2.2.2.1)) else (laws_FnTreePut.j4 k true x597000 x597001 x597002 x597003 bt629.1 bt629.2.1 bt629.2.2.1 bt629.2.2.2.1))) else (some false)))
def laws_FnTreePut.j4:Nat→Bool→ByteArray→ByteArray→Bool→List (S26)→ByteArray→ByteArray→Bool→List (S26)→Option (Bool)
 |0,_,_,_,_,_,_,_,_,_=>none
 |k + 1,x138,x597000,x597001,x597002,x597003,x637000,x637001,x637002,x637003=>if x138=true then (some false) else ((impl_TreeHash.f k x637000 x637001 x637002 x637003).bind fun bt638=>((spec_TreeHash.f k x597000 x597001 x597002 x597003).bind fun bt640=>(if bt640.2=0 then (some (bt638.1 == bt640.1)) else (some false))))
end
def laws_FnTreePut.f (k:Nat) (l0:List Int):Option (Bool):=(laws_big.f l0).bind fun t531=>(if t531=true then (some true) else ((spec_DrawTreePut.f k l0).bind fun bt532=>((spec_DrawTreePut.f k l0).bind fun bt549=>((spec_TreePut.f k bt549.1 bt549.2.1 bt549.2.2.1 bt549.2.2.2.1 bt549.2.2.2.2.1 bt549.2.2.2.2.2.1 bt549.2.2.2.2.2.2.1 bt549.2.2.2.2.2.2.2.1 bt549.2.2.2.2.2.2.2.2).bind fun bt564=>((impl_TreePut.f k bt532.1 bt532.2.1 bt532.2.2.1 bt532.2.2.2.1 bt532.2.2.2.2.1 bt532.2.2.2.2.2.1 bt532.2.2.2.2.2.2.1 bt532.2.2.2.2.2.2.2.1 bt532.2.2.2.2.2.2.2.2).bind fun bt572=>(if bt572.2.2.2.2=bt564.2.2.2.2 then ((laws_sameTree.f k bt572.1 bt572.2.1 bt572.2.2.1 bt572.2.2.2.1 bt564.1 bt564.2.1 bt564.2.2.1 bt564.2.2.2.1).bind fun t580=>(laws_FnTreePut.j0 k l0 bt532.2.2.2.2.1 bt572.2.2.2.2 (!t580) bt532.2.2.2.2.2.1 bt532.2.2.2.2.2.2.1 bt532.2.2.2.2.2.2.2.1 bt532.2.2.2.2.2.2.2.2 bt572.1 bt572.2.1 bt572.2.2.1 bt572.2.2.2.1)) else (laws_FnTreePut.j0 k l0 bt532.2.2.2.2.1 bt572.2.2.2.2 true bt532.2.2.2.2.2.1 bt532.2.2.2.2.2.2.1 bt532.2.2.2.2.2.2.2.1 bt532.2.2.2.2.2.2.2.2 bt572.1 bt572.2.1 bt572.2.2.1 bt572.2.2.2.1)))))))
set_option maxHeartbeats 8000000 in
set_option maxRecDepth 100000 in
theorem laws_FnTreePut.calls (k:Nat) (A0:Option Addr) (c0:Nat) (l0:List Int) (r:Bool) (w:World) (hr0:Kd.C (Kd.int .u8) w A0 l0.length l0) (hc0:l0.length≤c0) (h:laws_FnTreePut.f k l0=some r):
  Calls Try.prog 3 #[.slice A0 l0.length c0] w fun e w'=>e= .returned (.bool r)∧Below w.heap.size w w':=by
 have hu26:=Try.underlying26
 have HR0:=A0_ hr0
 have HC0:=A0_ hc0
 clear hr0 hc0
 have HB:=A0_ (Below.refl w.heap.size w)
 simp only [laws_FnTreePut.f] at h
 replace h:=Option.bind_eq_some_iff.mp h
 obtain ⟨b,h1,h⟩:=h
 have A2:=A0_ h1
 clear h1
 cases b with
 |true=>
  rw [if_pos rfl] at h
  obtain rfl:=Option.some.inj h
  clear h
  go_enter Try.func3,Try.ntmps3
  go_wp2_with (go_at_call 8;refine (laws_big.calls _ _ l0 true _ HR0.out HC0.out A2.out).mono ?_;rintro e w' ⟨rfl,⟨nd,rfl⟩⟩)
  go_ret
  exact ⟨rfl,pw_below_drewN HB.out _⟩
 |false=>
  rw [if_neg (by decide)] at h
  replace h:=Option.bind_eq_some_iff.mp h
  obtain ⟨⟨a0,a1,a2,la,lp,b0,b1,b2,lb⟩,h1,h⟩:=h
  dsimp only at h
  replace h:=Option.bind_eq_some_iff.mp h
  obtain ⟨⟨a0',a1',a2',la',lp',b0',b1',b2',lb'⟩,h1',h⟩:=h
  have E:(a0,a1,a2,la,lp,b0,b1,b2,lb)=(a0',a1',a2',la',lp',b0',b1',b2',lb'):=Option.some.inj (h1.symm.trans h1')
  simp only [Prod.mk.injEq] at E
  obtain ⟨rfl,rfl,rfl,rfl,rfl,rfl,rfl,rfl,rfl⟩:=E
  dsimp only at h
  replace h:=Option.bind_eq_some_iff.mp h
  obtain ⟨⟨p0,p1,p2,lq,we⟩,h2,h⟩:=h
  dsimp only at h
  replace h:=Option.bind_eq_some_iff.mp h
  obtain ⟨⟨o0,o1,o2,lo,e1⟩,h3,h⟩:=h
  dsimp only at h
  have A4:=A0_ h1
  have A6:=A0_ h2
  have A7:=A0_ h3
  have H:=A0_ h
  clear h1 h1' h2 h3 h
  go_enter Try.func3,Try.ntmps3
  go_upto_region 3 with (go_at_call 8;refine (laws_big.calls _ _ l0 false _ HR0.out HC0.out A2.out).mono ?_;rintro e w' ⟨rfl,⟨nd,rfl⟩⟩)
  go_upto_region 4 with (first
   |(go_at_call 9;refine (spec_DrawTreePut.calls k _ _ l0 a0 a1 a2 la lp b0 b1 b2 lb _ (Kd.C_drewN HR0.out _) HC0.out A4.out).mono ?_;rintro e w1 ⟨v1,v2,v3,rfl,ho1,ho2,ho3,hb⟩;replace hb:=(below_step (pw_below_drewN (Below.refl _ _) _) hb:Below w.heap.size w w1);replace HB:=A0_ (below_step HB.out hb);replace HR0:=A0_ (Kd.C_below HR0.out hb);obtain ⟨D1,d1,rfl⟩:=Kd.N_slice ho1;obtain ⟨D2,d2,rfl⟩:=Kd.R_slice ho2;obtain ⟨D3,d3,rfl⟩:=Kd.N_slice ho3;have La:=A0_ (Kd.N_reads' ho1).2.1;have Ra:=A0_ (Kd.N_reads' ho1).2.2;have Lp:=A0_ (Kd.R_reads' ho2).2.1;have Rp:=A0_ (Kd.R_reads' ho2).2.2;have Lb:=A0_ (Kd.N_reads' ho3).2.1;have Rb:=A0_ (Kd.N_reads' ho3).2.2;clear ho1 ho2 ho3 hb)
   |((with_reducible refine gate_dst (N:=3) rfl ?_);(try (refine gate_guard (by rfl) ?_;dsimp only));refine box_event ?hg (N:=3) ?hd (cs:= #[.string (⟨#[]⟩:ByteArray), .string (⟨#[]⟩:ByteArray), .bool false, .slice none 0 0]) (t:=26) ?hr ?_;(case hd=>rfl);(case hg=>rfl);(case hr=>first|(go_simp;done)|(go_simp;rfl));intro g3 hg w2 hx hb;have Xg3:=A0_ hx;have Gg3:=A0_ hg;have Pg3:=A0_ hb;clear hg hx hb)
   |((with_reducible refine gate_dst (N:=5) rfl ?_);(try (refine gate_guard (by rfl) ?_;dsimp only));refine box_event ?hg (N:=5) ?hd (cs:= #[.string (⟨#[]⟩:ByteArray), .string (⟨#[]⟩:ByteArray), .bool false, .slice none 0 0]) (t:=26) ?hr ?_;(case hd=>rfl);(case hg=>rfl);(case hr=>first|(go_simp;done)|(go_simp;rfl));intro g5 hg w3 hx hb;have Xg5:=A0_ hx;have Gg5:=A0_ hg;have Pg5:=A0_ hb;clear hg hx hb;obtain ⟨rg3_0,rg3_1,rg3_2,rg3_3,rg3_4,rg3_5,rg3_6,rg3_7⟩:=B4.raw (blk_below Xg3.out Pg5.out);obtain ⟨rg5_0,rg5_1,rg5_2,rg5_3,rg5_4,rg5_5,rg5_6,rg5_7⟩:=B4.raw (Xg5.out))
   |((with_reducible refine gate_store (t:=26) (p:=3) rfl ?_);refine store_event (t:=26) (p:=3) (v:= ?vo_g3) (w1:=((((w3.setCell ⟨g3,0,none⟩ (.string a0)).setCell ⟨g3,1,none⟩ (.string a1)).setCell ⟨g3,2,none⟩ (.bool a2)).setCell ⟨g3,3,none⟩ (.slice D1 la.length d1))) ?hg ?ho ?hn ?hr ?_;(case ho=>rfl);(case hg=>rfl);(case hn=>rfl);(case hr=>first|(go_simp;done)|(go_simp;rfl));intro w4 hw;clear rg3_0 rg3_1 rg3_2 rg3_3 rg3_4 rg3_5 rg3_6 rg3_7;have Wg3:=A0_ (show w4=St4 w3 g3 (.string a0) (.string a1) (.bool a2) (.slice D1 la.length d1) from hw);clear hw;clear rg5_0 rg5_1 rg5_2 rg5_3 rg5_4 rg5_5 rg5_6 rg5_7;obtain ⟨rg5_0,rg5_1,rg5_2,rg5_3,rg5_4,rg5_5,rg5_6,rg5_7⟩:=B4.raw ((Wg3.out ▸ B4.far Xg5.out (show g5≠g3 from fun e=>absurd (blk_lt Xg3.out) (by rw [← e,Gg5.out];exact Nat.lt_irrefl _)) _ _ _ _:B4 w4 g5 _ _ _ _ 26))))
  generalize hw:((((w4.setCell ⟨g5,0,none⟩ (.string b0)).setCell ⟨g5,1,none⟩ (.string b1)).setCell ⟨g5,2,none⟩ (.bool b2)).setCell ⟨g5,3,none⟩ (.slice D3 lb.length d3))=w5
  clear rg5_0 rg5_1 rg5_2 rg5_3 rg5_4 rg5_5 rg5_6 rg5_7
  replace hw:w5=St4 w4 g5 (.string b0) (.string b1) (.bool b2) (.slice D3 lb.length d3):=hw.symm
  obtain ⟨hb,x3,x5, -, -⟩:=box2 (s:=w1) (by repeat (first|exact Below.refl _ _|apply below_alloc|apply pw_below_drewN|apply below_drew1)) Gg3.out Pg3.out Xg3.out Gg5.out Pg5.out Xg5.out Wg3.out hw
  clear Gg3 Pg3 Xg3 Gg5 Pg5 Xg5 Wg3 hw
  have X3:=A0_ x3
  have X5:=A0_ x5
  replace HB:=A0_ (below_step HB.out hb)
  replace HR0:=A0_ (Kd.C_below HR0.out hb)
  replace Ra:=A0_ (Kd.C_below Ra.out hb)
  replace Rp:=A0_ (Kd.C_below Rp.out hb)
  replace Rb:=A0_ (Kd.C_below Rb.out hb)
  clear hb x3 x5
  go_upto_region 5 with (first
   |(go_at_call 9;refine (spec_DrawTreePut.calls k _ _ l0 a0 a1 a2 la lp b0 b1 b2 lb _ HR0.out HC0.out A4.out).mono ?_;rintro e w6 ⟨v1,v2,v3,rfl,ho1,ho2,ho3,hb⟩;replace HB:=A0_ (below_step HB.out hb);replace HR0:=A0_ (Kd.C_below HR0.out hb);replace Ra:=A0_ (Kd.C_below Ra.out hb);replace Rp:=A0_ (Kd.C_below Rp.out hb);replace Rb:=A0_ (Kd.C_below Rb.out hb);replace X3:=A0_ (B4.below X3.out hb);replace X5:=A0_ (B4.below X5.out hb);obtain ⟨D4,d4,rfl⟩:=Kd.N_slice ho1;obtain ⟨D5,d5,rfl⟩:=Kd.R_slice ho2;obtain ⟨D6,d6,rfl⟩:=Kd.N_slice ho3;have La':=A0_ (Kd.N_reads' ho1).2.1;have Ra':=A0_ (Kd.N_reads' ho1).2.2;have Lp':=A0_ (Kd.R_reads' ho2).2.1;have Rp':=A0_ (Kd.R_reads' ho2).2.2;have Lb':=A0_ (Kd.N_reads' ho3).2.1;have Rb':=A0_ (Kd.N_reads' ho3).2.2;clear ho1 ho2 ho3 hb)
   |(go_at_call 10;refine (spec_TreePut.calls k _ _ _ _ _ _ _ _ _ _ _ _ _ _ _ p0 p1 p2 lq we _ Ra'.out La'.out Rp'.out Lp'.out Rb'.out Lb'.out A6.out).mono ?_;rintro e w7 ⟨v1,rfl,ho1,hb⟩;clear Ra' La' Rp' Lp' Rb' Lb';replace HB:=A0_ (below_step HB.out hb);replace HR0:=A0_ (Kd.C_below HR0.out hb);replace Ra:=A0_ (Kd.C_below Ra.out hb);replace Rp:=A0_ (Kd.C_below Rp.out hb);replace Rb:=A0_ (Kd.C_below Rb.out hb);replace X3:=A0_ (B4.below X3.out hb);replace X5:=A0_ (B4.below X5.out hb);obtain ⟨D7,d7,rfl⟩:=Kd.R_slice ho1;have Lq:=A0_ (Kd.R_reads' ho1).2.1;have Rq:=A0_ (Kd.R_reads' ho1).2.2;clear ho1 hb)
   |((with_reducible refine gate_dst (N:=6) rfl ?_);(try (refine gate_guard (by rfl) ?_;dsimp only));refine box_event ?hg (N:=6) ?hd (cs:= #[.string (⟨#[]⟩:ByteArray), .string (⟨#[]⟩:ByteArray), .bool false, .slice none 0 0]) (t:=26) ?hr ?_;(case hd=>rfl);(case hg=>rfl);(case hr=>first|(go_simp;done)|(go_simp;rfl));intro g6 hg w8 hx hb;have Xg6:=A0_ hx;have Gg6:=A0_ hg;have Pg6:=A0_ hb;clear hg hx hb;obtain ⟨rg6_0,rg6_1,rg6_2,rg6_3,rg6_4,rg6_5,rg6_6,rg6_7⟩:=B4.raw (Xg6.out)))
  generalize hw:((((w8.setCell ⟨g6,0,none⟩ (.string p0)).setCell ⟨g6,1,none⟩ (.string p1)).setCell ⟨g6,2,none⟩ (.bool p2)).setCell ⟨g6,3,none⟩ (.slice D7 lq.length d7))=w9
  clear rg6_0 rg6_1 rg6_2 rg6_3 rg6_4 rg6_5 rg6_6 rg6_7
  replace hw:w9=St4 w8 g6 (.string p0) (.string p1) (.bool p2) (.slice D7 lq.length d7):=hw.symm
  obtain ⟨hb,x6, -⟩:=box1 (s:=w7) (by repeat (first|exact Below.refl _ _|apply below_alloc|apply pw_below_drewN|apply below_drew1)) Gg6.out Pg6.out Xg6.out hw
  clear Gg6 Pg6 Xg6 hw
  have X6:=A0_ x6
  replace HB:=A0_ (below_step HB.out hb)
  replace HR0:=A0_ (Kd.C_below HR0.out hb)
  replace Ra:=A0_ (Kd.C_below Ra.out hb)
  replace Rp:=A0_ (Kd.C_below Rp.out hb)
  replace Rb:=A0_ (Kd.C_below Rb.out hb)
  replace Rq:=A0_ (Kd.C_below Rq.out hb)
  replace X3:=A0_ (B4.below X3.out hb)
  replace X5:=A0_ (B4.below X5.out hb)
  clear hb x6
  obtain ⟨rg3_0,rg3_1,rg3_2,rg3_3,rg3_4,rg3_5,rg3_6,rg3_7⟩:=B4.raw (X3.out)
  obtain ⟨rg5_0,rg5_1,rg5_2,rg5_3,rg5_4,rg5_5,rg5_6,rg5_7⟩:=B4.raw (X5.out)
  go_upto_region 6 with (first
   |(go_at_call 11;refine (impl_TreePut.calls k _ _ _ (fun _=>True) _ _ _ _ _ _ _ _ _ _ _ _ o0 o1 o2 lo e1 _ (Kd.V_mk La.out (Kd.F_mono (Kd.C_F k26_heap Ra.out) (fun _ _=>trivial))) Rp.out Lp.out Rb.out Lb.out A7.out).mono ?_;rintro e w10 ⟨v1,rfl,ho1,hb⟩;clear Ra La;clear rg3_0 rg3_1 rg3_2 rg3_3 rg3_4 rg3_5 rg3_6 rg3_7;clear rg5_0 rg5_1 rg5_2 rg5_3 rg5_4 rg5_5 rg5_6 rg5_7;clear X3;replace HB:=A0_ (below_step HB.out hb);replace HR0:=A0_ (Kd.C_below HR0.out hb);replace Rp:=A0_ (Kd.C_below Rp.out hb);replace Rb:=A0_ (Kd.C_below Rb.out hb);replace Rq:=A0_ (Kd.C_below Rq.out hb);replace X5:=A0_ (B4.below X5.out hb);replace X6:=A0_ (B4.below X6.out hb);obtain ⟨D8,d8,rfl⟩:=Kd.N_slice ho1;have Lo:=A0_ (Kd.N_reads' ho1).2.1;have Ro:=A0_ (Kd.N_reads' ho1).2.2;clear ho1 hb)
   |((with_reducible refine gate_dst (N:=8) rfl ?_);(try (refine gate_guard (by rfl) ?_;dsimp only));refine box_event ?hg (N:=8) ?hd (cs:= #[.string (⟨#[]⟩:ByteArray), .string (⟨#[]⟩:ByteArray), .bool false, .slice none 0 0]) (t:=26) ?hr ?_;(case hd=>rfl);(case hg=>rfl);(case hr=>first|(go_simp;done)|(go_simp;rfl));intro g8 hg w11 hx hb;have Xg8:=A0_ hx;have Gg8:=A0_ hg;have Pg8:=A0_ hb;clear hg hx hb;obtain ⟨rg8_0,rg8_1,rg8_2,rg8_3,rg8_4,rg8_5,rg8_6,rg8_7⟩:=B4.raw (Xg8.out)))
  generalize hw:((((w11.setCell ⟨g8,0,none⟩ (.string o0)).setCell ⟨g8,1,none⟩ (.string o1)).setCell ⟨g8,2,none⟩ (.bool o2)).setCell ⟨g8,3,none⟩ (.slice D8 lo.length d8))=w12
  clear rg8_0 rg8_1 rg8_2 rg8_3 rg8_4 rg8_5 rg8_6 rg8_7
  replace hw:w12=St4 w11 g8 (.string o0) (.string o1) (.bool o2) (.slice D8 lo.length d8):=hw.symm
  obtain ⟨hb,x8, -⟩:=box1 (s:=w10) (by repeat (first|exact Below.refl _ _|apply below_alloc|apply pw_below_drewN|apply below_drew1)) Gg8.out Pg8.out Xg8.out hw
  clear Gg8 Pg8 Xg8 hw
  have X8:=A0_ x8
  replace HB:=A0_ (below_step HB.out hb)
  replace HR0:=A0_ (Kd.C_below HR0.out hb)
  replace Rp:=A0_ (Kd.C_below Rp.out hb)
  replace Rb:=A0_ (Kd.C_below Rb.out hb)
  replace Rq:=A0_ (Kd.C_below Rq.out hb)
  replace Ro:=A0_ (Kd.C_below Ro.out hb)
  replace X5:=A0_ (B4.below X5.out hb)
  replace X6:=A0_ (B4.below X6.out hb)
  clear hb x8
  have h:=H.out
  clear H
  by_cases ce:e1=we
  ·rw [if_pos ce] at h
   subst ce
   replace h:=Option.bind_eq_some_iff.mp h
   obtain ⟨b,h1,h⟩:=h
   have A8:=A0_ h1
   have H:=A0_ h
   clear h1 h
   obtain ⟨rg6_0,rg6_1,rg6_2,rg6_3,rg6_4,rg6_5,rg6_6,rg6_7⟩:=B4.raw (X6.out)
   obtain ⟨rg8_0,rg8_1,rg8_2,rg8_3,rg8_4,rg8_5,rg8_6,rg8_7⟩:=B4.raw (X8.out)
   have hk: ∃ k1,k=k1 + 1:=by
    cases k with
    |zero=>exact absurd H.out (by simp [laws_FnTreePut.j0])
    |succ k=>exact ⟨k,rfl⟩
   obtain ⟨k1,rfl⟩:=hk
   have h:=H.out
   clear H
   cases b with
   |false=>
    simp only [laws_FnTreePut.j0,Bool.not_false,↓reduceIte] at h
    obtain rfl:=Option.some.inj h
    clear h
    go_wp2_with (go_at_call 12;refine (laws_sameTree.calls (k1 + 1) _ _ _ _ _ _ _ _ _ _ _ _ false _ Ro.out Lo.out Rq.out Lq.out A8.out).mono ?_;rintro e w13 ⟨rfl,hb⟩;replace HB:=A0_ (below_step HB.out hb);clear hb)
    go_ret
    exact ⟨rfl,by first|exact HB.out|exact pw_below_drewN HB.out _⟩
   |true=>
    simp only [laws_FnTreePut.j0,Bool.not_true,Bool.false_eq_true,↓reduceIte] at h
    by_cases c0:e1=0
    ·subst c0
     rw [if_pos rfl] at h
     have H:=A0_ h
     clear h
     go_upto_region 10 with (go_at_call 12;refine (laws_sameTree.calls (k1 + 1) _ _ _ _ _ _ _ _ _ _ _ _ true _ Ro.out Lo.out Rq.out Lq.out A8.out).mono ?_;rintro e w13 ⟨rfl,hb⟩;clear rg6_0 rg6_1 rg6_2 rg6_3 rg6_4 rg6_5 rg6_6 rg6_7;clear rg8_0 rg8_1 rg8_2 rg8_3 rg8_4 rg8_5 rg8_6 rg8_7;clear Rq Lq X6;replace HB:=A0_ (below_step HB.out hb);replace HR0:=A0_ (Kd.C_below HR0.out hb);replace Rp:=A0_ (Kd.C_below Rp.out hb);replace Rb:=A0_ (Kd.C_below Rb.out hb);replace Ro:=A0_ (Kd.C_below Ro.out hb);replace X5:=A0_ (B4.below X5.out hb);replace X8:=A0_ (B4.below X8.out hb);clear hb)
     replace h:=Option.bind_eq_some_iff.mp H.out
     obtain ⟨⟨a0',a1',a2',la',lp',b0',b1',b2',lb'⟩,h1,h⟩:=h
     have E:(a0,a1,a2,la,lp,b0,b1,b2,lb)=(a0',a1',a2',la',lp',b0',b1',b2',lb'):=Option.some.inj (A4.out.symm.trans (spec_DrawTreePut.mono _ _ _ h1))
     simp only [Prod.mk.injEq] at E
     obtain ⟨rfl,rfl,rfl,rfl,rfl,rfl,rfl,rfl,rfl⟩:=E
     dsimp only at h
     replace h:=Option.bind_eq_some_iff.mp h
     obtain ⟨⟨s0,s1,s2,ls,e2⟩,h2,h⟩:=h
     dsimp only at h
     have A9:=A0_ h2
     replace H:=A0_ h
     clear h h1 h2 A6 A7 A8
     go_upto_region 11 with (first
      |(go_at_call 9;refine (spec_DrawTreePut.calls (k1 + 1) _ _ l0 a0 a1 a2 la lp b0 b1 b2 lb _ HR0.out HC0.out A4.out).mono ?_;rintro e w14 ⟨v1,v2,v3,rfl,ho1,ho2,ho3,hb⟩;replace HB:=A0_ (below_step HB.out hb);clear HR0 HC0;replace Rp:=A0_ (Kd.C_below Rp.out hb);replace Rb:=A0_ (Kd.C_below Rb.out hb);replace Ro:=A0_ (Kd.C_below Ro.out hb);replace X5:=A0_ (B4.below X5.out hb);replace X8:=A0_ (B4.below X8.out hb);obtain ⟨D9,d9,rfl⟩:=Kd.N_slice ho1;obtain ⟨D10,d10,rfl⟩:=Kd.R_slice ho2;obtain ⟨D11,d11,rfl⟩:=Kd.N_slice ho3;have Lf:=A0_ (Kd.N_reads' ho1).2.1;have Rf:=A0_ (Kd.N_reads' ho1).2.2;clear ho1 ho2 ho3 hb)
      |((with_reducible refine gate_dst (N:=10) rfl ?_);(try (refine gate_guard (by rfl) ?_;dsimp only));refine box_event ?hg (N:=10) ?hd (cs:= #[.string (⟨#[]⟩:ByteArray), .string (⟨#[]⟩:ByteArray), .bool false, .slice none 0 0]) (t:=26) ?hr ?_;(case hd=>rfl);(case hg=>rfl);(case hr=>first|(go_simp;done)|(go_simp;rfl));intro g10 hg w15 hx hb;have Xg10:=A0_ hx;have Gg10:=A0_ hg;have Pg10:=A0_ hb;clear hg hx hb)
      |((with_reducible refine gate_dst (N:=12) rfl ?_);(try (refine gate_guard (by rfl) ?_;dsimp only));refine box_event ?hg (N:=12) ?hd (cs:= #[.string (⟨#[]⟩:ByteArray), .string (⟨#[]⟩:ByteArray), .bool false, .slice none 0 0]) (t:=26) ?hr ?_;(case hd=>rfl);(case hg=>rfl);(case hr=>first|(go_simp;done)|(go_simp;rfl));intro g12 hg w16 hx hb;have Xg12:=A0_ hx;have Gg12:=A0_ hg;have Pg12:=A0_ hb;clear hg hx hb;obtain ⟨rg10_0,rg10_1,rg10_2,rg10_3,rg10_4,rg10_5,rg10_6,rg10_7⟩:=B4.raw (blk_below Xg10.out Pg12.out);obtain ⟨rg12_0,rg12_1,rg12_2,rg12_3,rg12_4,rg12_5,rg12_6,rg12_7⟩:=B4.raw (Xg12.out))
      |((with_reducible refine gate_store (t:=26) (p:=10) rfl ?_);refine store_event (t:=26) (p:=10) (v:= ?vo_g10) (w1:=((((w16.setCell ⟨g10,0,none⟩ (.string a0)).setCell ⟨g10,1,none⟩ (.string a1)).setCell ⟨g10,2,none⟩ (.bool a2)).setCell ⟨g10,3,none⟩ (.slice D9 la.length d9))) ?hg ?ho ?hn ?hr ?_;(case ho=>rfl);(case hg=>rfl);(case hn=>rfl);(case hr=>first|(go_simp;done)|(go_simp;rfl));intro w17 hw;clear rg10_0 rg10_1 rg10_2 rg10_3 rg10_4 rg10_5 rg10_6 rg10_7;have Wg10:=A0_ (show w17=St4 w16 g10 (.string a0) (.string a1) (.bool a2) (.slice D9 la.length d9) from hw);clear hw;clear rg12_0 rg12_1 rg12_2 rg12_3 rg12_4 rg12_5 rg12_6 rg12_7;obtain ⟨rg12_0,rg12_1,rg12_2,rg12_3,rg12_4,rg12_5,rg12_6,rg12_7⟩:=B4.raw ((Wg10.out ▸ B4.far Xg12.out (show g12≠g10 from fun e=>absurd (blk_lt Xg10.out) (by rw [← e,Gg12.out];exact Nat.lt_irrefl _)) _ _ _ _:B4 w17 g12 _ _ _ _ 26))))
     generalize hw:((((w17.setCell ⟨g12,0,none⟩ (.string b0)).setCell ⟨g12,1,none⟩ (.string b1)).setCell ⟨g12,2,none⟩ (.bool b2)).setCell ⟨g12,3,none⟩ (.slice D11 lb.length d11))=w18
     clear rg12_0 rg12_1 rg12_2 rg12_3 rg12_4 rg12_5 rg12_6 rg12_7
     replace hw:w18=St4 w17 g12 (.string b0) (.string b1) (.bool b2) (.slice D11 lb.length d11):=hw.symm
     obtain ⟨hb,x10, -, -, -⟩:=box2 (s:=w14) (by repeat (first|exact Below.refl _ _|apply below_alloc|apply pw_below_drewN|apply below_drew1)) Gg10.out Pg10.out Xg10.out Gg12.out Pg12.out Xg12.out Wg10.out hw
     clear Gg10 Pg10 Xg10 Gg12 Pg12 Xg12 Wg10 hw
     have X10:=A0_ x10
     replace HB:=A0_ (below_step HB.out hb)
     replace Rp:=A0_ (Kd.C_below Rp.out hb)
     replace Rb:=A0_ (Kd.C_below Rb.out hb)
     replace Ro:=A0_ (Kd.C_below Ro.out hb)
     replace Rf:=A0_ (Kd.C_below Rf.out hb)
     replace X5:=A0_ (B4.below X5.out hb)
     replace X8:=A0_ (B4.below X8.out hb)
     clear hb x10
     obtain ⟨rg8_0,rg8_1,rg8_2,rg8_3,rg8_4,rg8_5,rg8_6,rg8_7⟩:=B4.raw (X8.out)
     go_upto_region 12 with (first
      |(go_at_call 13;refine (impl_TreeAt.calls k1 _ _ _ _ _ _ _ _ _ s0 s1 s2 ls e2 _ Ro.out Lo.out Rp.out Lp.out A9.out).mono ?_;rintro e w19 ⟨v1,rfl,ho1,hb⟩;clear rg8_0 rg8_1 rg8_2 rg8_3 rg8_4 rg8_5 rg8_6 rg8_7;replace HB:=A0_ (below_step HB.out hb);replace Rp:=A0_ (Kd.C_below Rp.out hb);replace Rb:=A0_ (Kd.C_below Rb.out hb);replace Ro:=A0_ (Kd.C_below Ro.out hb);replace Rf:=A0_ (Kd.C_below Rf.out hb);replace X5:=A0_ (B4.below X5.out hb);replace X8:=A0_ (B4.below X8.out hb);replace X10:=A0_ (B4.below X10.out hb);obtain ⟨D12,d12,rfl⟩:=Kd.R_slice ho1;have Ls:=A0_ (Kd.R_reads' ho1).2.1;have Rs:=A0_ (Kd.R_reads' ho1).2.2;clear ho1 hb)
      |((with_reducible refine gate_dst (N:=13) rfl ?_);(try (refine gate_guard (by rfl) ?_;dsimp only));refine box_event ?hg (N:=13) ?hd (cs:= #[.string (⟨#[]⟩:ByteArray), .string (⟨#[]⟩:ByteArray), .bool false, .slice none 0 0]) (t:=26) ?hr ?_;(case hd=>rfl);(case hg=>rfl);(case hr=>first|(go_simp;done)|(go_simp;rfl));intro g13 hg w20 hx hb;have Xg13:=A0_ hx;have Gg13:=A0_ hg;have Pg13:=A0_ hb;clear hg hx hb;obtain ⟨rg13_0,rg13_1,rg13_2,rg13_3,rg13_4,rg13_5,rg13_6,rg13_7⟩:=B4.raw (Xg13.out)))
     generalize hw:((((w20.setCell ⟨g13,0,none⟩ (.string s0)).setCell ⟨g13,1,none⟩ (.string s1)).setCell ⟨g13,2,none⟩ (.bool s2)).setCell ⟨g13,3,none⟩ (.slice D12 ls.length d12))=w21
     clear rg13_0 rg13_1 rg13_2 rg13_3 rg13_4 rg13_5 rg13_6 rg13_7
     replace hw:w21=St4 w20 g13 (.string s0) (.string s1) (.bool s2) (.slice D12 ls.length d12):=hw.symm
     obtain ⟨hb,x13, -⟩:=box1 (s:=w19) (by repeat (first|exact Below.refl _ _|apply below_alloc|apply pw_below_drewN|apply below_drew1)) Gg13.out Pg13.out Xg13.out hw
     clear Gg13 Pg13 Xg13 hw
     have X13:=A0_ x13
     replace HB:=A0_ (below_step HB.out hb)
     replace Rp:=A0_ (Kd.C_below Rp.out hb)
     replace Rb:=A0_ (Kd.C_below Rb.out hb)
     replace Ro:=A0_ (Kd.C_below Ro.out hb)
     replace Rf:=A0_ (Kd.C_below Rf.out hb)
     replace Rs:=A0_ (Kd.C_below Rs.out hb)
     replace X5:=A0_ (B4.below X5.out hb)
     replace X8:=A0_ (B4.below X8.out hb)
     replace X10:=A0_ (B4.below X10.out hb)
     clear hb x13
     have h:=H.out
     clear H A9
     by_cases ce:e2=0
     ·subst ce
      rw [if_pos rfl] at h
      replace h:=Option.bind_eq_some_iff.mp h
      obtain ⟨b,h1,h⟩:=h
      have A10:=A0_ h1
      have hk: ∃ k2,k1=k2 + 1:=by
       cases k1 with
       |zero=>exact absurd h (by simp [laws_FnTreePut.j1])
       |succ k=>exact ⟨k,rfl⟩
      obtain ⟨k2,rfl⟩:=hk
      clear h1
      obtain ⟨rg13_0,rg13_1,rg13_2,rg13_3,rg13_4,rg13_5,rg13_6,rg13_7⟩:=B4.raw (X13.out)
      obtain ⟨rg5_0,rg5_1,rg5_2,rg5_3,rg5_4,rg5_5,rg5_6,rg5_7⟩:=B4.raw (X5.out)
      cases b with
      |false=>
       simp only [laws_FnTreePut.j1,Bool.not_false,↓reduceIte] at h
       obtain rfl:=Option.some.inj h
       clear h
       go_wp2_with (go_at_call 12;refine (laws_sameTree.calls (k2 + 1) _ _ _ _ _ _ _ _ _ _ _ _ false _ Rs.out Ls.out Rb.out Lb.out A10.out).mono ?_;rintro e w22 ⟨rfl,hb⟩;replace HB:=A0_ (below_step HB.out hb);clear hb)
       go_ret
       exact ⟨rfl,by first|exact HB.out|exact pw_below_drewN HB.out _⟩
      |true=>
       simp only [laws_FnTreePut.j1,Bool.not_true,Bool.false_eq_true,↓reduceIte] at h
       have H:=A0_ h
       clear h
       go_wp2_with (go_at_call 12;refine (laws_sameTree.calls (k2 + 1) _ _ _ _ _ _ _ _ _ _ _ _ true _ Rs.out Ls.out Rb.out Lb.out A10.out).mono ?_;rintro e w22 ⟨rfl,hb⟩;clear rg13_0 rg13_1 rg13_2 rg13_3 rg13_4 rg13_5 rg13_6 rg13_7;clear rg5_0 rg5_1 rg5_2 rg5_3 rg5_4 rg5_5 rg5_6 rg5_7;clear X13 X5 Rb Lb Rs Ls A10;replace HB:=A0_ (below_step HB.out hb);replace Rp:=A0_ (Kd.C_below Rp.out hb);replace Ro:=A0_ (Kd.C_below Ro.out hb);replace Rf:=A0_ (Kd.C_below Rf.out hb);replace X8:=A0_ (B4.below X8.out hb);replace X10:=A0_ (B4.below X10.out hb);clear hb)
       clear A4 A2
       go_loopg [14] k2 (fun kq v14 w'=> ∃ (i:Int),v14= .int .i64 i∧Aside0 (laws_FnTreePut.l0 kq lp i o0 o1 o2 lo a0 a1 a2 la=some r)∧Aside0 (kq≤k2)∧Aside0 (Below w.heap.size w w')∧Aside0 (Kd.C (Kd.int .i64) w' D2 lp.length lp)∧Aside0 (Kd.C k26 w' D8 lo.length lo)∧Aside0 (Kd.C k26 w' D9 la.length la)∧Aside0 (B4 w' g8 (.string o0) (.string o1) (.bool o2) (.slice D8 lo.length d8) 26)∧Aside0 (B4 w' g10 (.string a0) (.string a1) (.bool a2) (.slice D9 la.length d9) 26))
       case atStart=>exact ⟨0,rfl,H,⟨Nat.le_refl _⟩,HB,Rp,Ro,Rf,X8,X10⟩
       case round=>
        clear H HB Rp Ro Rf X8 X10
        obtain ⟨i,rfl,H,HK,HB,Rp,Ro,Rf,X8,X10⟩:=hrel
        cases gk with
        |zero=>exact absurd H.out (by simp [laws_FnTreePut.l0])
        |succ k3=>
         have h:=H.out
         clear H
         simp only [laws_FnTreePut.l0] at h
         have H:=A0_ h
         clear h
         go_upto_region 15 with (fail)
         go_cut [87] (fun v87 wc=> ∃ (x:Bool),v87= .bool x∧Aside0 (laws_FnTreePut.j3 k3 lp i x o0 o1 o2 lo a0 a1 a2 la=some r)∧Aside0 (x=true→i < (la.length:Int))∧Aside0 (Below w.heap.size w wc)∧Aside0 (Kd.C (Kd.int .i64) wc D2 lp.length lp)∧Aside0 (Kd.C k26 wc D8 lo.length lo)∧Aside0 (Kd.C k26 wc D9 la.length la)∧Aside0 (B4 wc g8 (.string o0) (.string o1) (.bool o2) (.slice D8 lo.length d8) 26)∧Aside0 (B4 wc g10 (.string a0) (.string a1) (.bool a2) (.slice D9 la.length d9) 26))
         case first=>
          obtain ⟨rg10_0,rg10_1,rg10_2,rg10_3,rg10_4,rg10_5,rg10_6,rg10_7⟩:=B4.raw (X10.out)
          by_cases c1:i < (la.length:Int)
          ·have h:=(if_pos c1).symm.trans H.out
           have c2:decide (i < (la.length:Int))=true:=decide_eq_true c1
           have C1:=A0_ c1
           have H:=A0_ h
           clear c1 h
           go_wp2
           go_meet
           case rel=>exact ⟨decide ((lp.length:Int) > 0),(by first|rfl|(simp;done)|(simp [*];done)),H,⟨fun _=>C1.out⟩,HB,Rp,Ro,Rf,X8,X10⟩
          ·have h:=(if_neg c1).symm.trans H.out
           have c2:decide (i < (la.length:Int))=false:=decide_eq_false c1
           have H:=A0_ h
           clear c1 h
           go_wp2
           go_meet
           case rel=>exact ⟨false,(by first|rfl|(simp;done)|(simp [*];done)),H,⟨fun e=>absurd e (by decide)⟩,HB,Rp,Ro,Rf,X8,X10⟩
         case rest=>
          obtain ⟨x,rfl,H,HI,HB,Rp,Ro,Rf,X8,X10⟩:=hcut
          have hk: ∃ k4,k3=k4 + 1:=by
           cases k3 with
           |zero=>exact absurd H.out (by simp [laws_FnTreePut.j3])
           |succ k=>exact ⟨k,rfl⟩
          obtain ⟨k4,rfl⟩:=hk
          cases x with
          |true=>
           have h:=H.out
           have hi:=HI.out rfl
           clear H HI
           obtain ⟨ys,hys⟩: ∃ ys:List Int,ys= [i]:=⟨_,rfl⟩
           simp only [laws_FnTreePut.j3,↓reduceIte] at h
           rw [← hys] at h
           replace hys:=A0_ hys
           replace h:=Option.bind_eq_some_iff.mp h
           obtain ⟨⟨q0,q1,q2,lk,e5⟩,h1,h⟩:=h
           dsimp only at h
           have A11:=A0_ h1
           have H:=A0_ h
           have HI:=A0_ hi
           clear h h1 hi
           obtain ⟨rg8_0,rg8_1,rg8_2,rg8_3,rg8_4,rg8_5,rg8_6,rg8_7⟩:=B4.raw (X8.out)
           go_upto_region 18 with (first
            |((with_reducible refine gate_dst (N:=93) rfl ?_);(try (refine gate_guard (by rfl) ?_;dsimp only));refine Kd.R_lit (Kd.int .i64) _ 3 ?hg (N:=93) ?hd (xs:=([i]:List Int)) (inner:= [.int .i64 i]) (ok:=fun _=>True) (okp:=fun _=>True) ?hr ?hp (fun _ hk=>hk) trivial (Below.refl _ _) (Nat.le_refl _) (by simp) ?_;(case hd=>rfl);(case hg=>rfl);(case hr=>first|(go_simp;done)|(go_simp;rfl));(case hp=>exact (Reps.one (show Kd.M (Kd.int .i64) _ _ _ i [.int .i64 i] from rfl) (Reps.none _ _)));intro v1 w23 ho1 hb hg_ hnew_;clear hg_ hnew_;rw [← hys.out] at ho1;replace HB:=A0_ (below_step HB.out hb);replace Rp:=A0_ (Kd.C_below Rp.out hb);replace Ro:=A0_ (Kd.C_below Ro.out hb);replace Rf:=A0_ (Kd.C_below Rf.out hb);replace X8:=A0_ (B4.below X8.out hb);replace X10:=A0_ (B4.below X10.out hb);obtain ⟨D13,d13,rfl⟩:=Kd.R_slice ho1;have Ly:=A0_ (Kd.R_reads' ho1).2.1;have Ry:=A0_ (Kd.R_reads' ho1).2.2;clear ho1 hb;skip)
            |(go_at_call 13;refine (impl_TreeAt.calls k4 _ _ _ _ _ _ _ _ _ q0 q1 q2 lk e5 _ Ro.out Lo.out Ry.out Ly.out A11.out).mono ?_;rintro e w24 ⟨v1,rfl,ho1,hb⟩;clear rg8_0 rg8_1 rg8_2 rg8_3 rg8_4 rg8_5 rg8_6 rg8_7;clear Ry Ly;replace HB:=A0_ (below_step HB.out hb);replace Rp:=A0_ (Kd.C_below Rp.out hb);replace Ro:=A0_ (Kd.C_below Ro.out hb);replace Rf:=A0_ (Kd.C_below Rf.out hb);replace X8:=A0_ (B4.below X8.out hb);replace X10:=A0_ (B4.below X10.out hb);obtain ⟨D14,d14,rfl⟩:=Kd.R_slice ho1;have Lk:=A0_ (Kd.R_reads' ho1).2.1;have Rk:=A0_ (Kd.R_reads' ho1).2.2;clear ho1 hb)
            |((with_reducible refine gate_dst (N:=15) rfl ?_);(try (refine gate_guard (by rfl) ?_;dsimp only));refine box_event ?hg (N:=15) ?hd (cs:= #[.string (⟨#[]⟩:ByteArray), .string (⟨#[]⟩:ByteArray), .bool false, .slice none 0 0]) (t:=26) ?hr ?_;(case hd=>rfl);(case hg=>rfl);(case hr=>first|(go_simp;done)|(go_simp;rfl));intro g15 hg w25 hx hb;have Xg15:=A0_ hx;have Gg15:=A0_ hg;have Pg15:=A0_ hb;clear hg hx hb;obtain ⟨rg15_0,rg15_1,rg15_2,rg15_3,rg15_4,rg15_5,rg15_6,rg15_7⟩:=B4.raw (Xg15.out)))
           generalize hw:((((w25.setCell ⟨g15,0,none⟩ (.string q0)).setCell ⟨g15,1,none⟩ (.string q1)).setCell ⟨g15,2,none⟩ (.bool q2)).setCell ⟨g15,3,none⟩ (.slice D14 lk.length d14))=w26
           clear rg15_0 rg15_1 rg15_2 rg15_3 rg15_4 rg15_5 rg15_6 rg15_7
           replace hw:w26=St4 w25 g15 (.string q0) (.string q1) (.bool q2) (.slice D14 lk.length d14):=hw.symm
           obtain ⟨hb,x15, -⟩:=box1 (s:=w24) (by repeat (first|exact Below.refl _ _|apply below_alloc|apply pw_below_drewN|apply below_drew1)) Gg15.out Pg15.out Xg15.out hw
           clear Gg15 Pg15 Xg15 hw
           have X15:=A0_ x15
           replace HB:=A0_ (below_step HB.out hb)
           replace Rp:=A0_ (Kd.C_below Rp.out hb)
           replace Ro:=A0_ (Kd.C_below Ro.out hb)
           replace Rf:=A0_ (Kd.C_below Rf.out hb)
           replace Rk:=A0_ (Kd.C_below Rk.out hb)
           replace X8:=A0_ (B4.below X8.out hb)
           replace X10:=A0_ (B4.below X10.out hb)
           clear hb x15 A11
           have h:=H.out
           clear H
           by_cases ce:e5=0
           ·subst ce
            rw [if_pos rfl] at h
            have hi:=HI.out
            by_cases cl:0 < (lp.length:Int)
            ·rw [if_pos cl] at h
             obtain ⟨adp,ep,hxp⟩:=Kd.at_int Rp.out 0 (Int.le_refl 0) cl
             cases ep
             have cl2:=eq_true cl
             have cl4:=eq_true (show 0≤(0:Int) from Int.le_refl 0)
             have cl5:(0 < lp.length)=True:=eq_true (by omega)
             (try rw [show ((0:Int)).toNat=0 from rfl] at hxp)
             (try rw [Addr.add_zero'] at hxp)
             have cl3:decide (0 < (lp.length:Int))=true:=decide_eq_true cl
             by_cases ci:i=rd lp 0
             ·rw [if_pos ci] at h
              have ci1:(i == rd lp 0)=true:=beq_iff_eq.mpr ci
              have ci2:(i != rd lp 0)=false:=bne_eq_false_iff_eq.mpr ci
              have H:=A0_ h
              clear ci h hi cl
              go_quiet (fail)
              go_wp2
              go_roundg k4
              case measure=>have:=HK.out;omega
              case rel=>exact ⟨wrap64 (i + 1),rfl,H,⟨by have:=HK.out;omega⟩,⟨pw_below_drewN HB.out _⟩,⟨Kd.C_drewN Rp.out _⟩,⟨Kd.C_drewN Ro.out _⟩,⟨Kd.C_drewN Rf.out _⟩,⟨blk_drewN X8.out _⟩,⟨blk_drewN X10.out _⟩⟩
             ·rw [if_neg ci] at h
              have ci1:(i == rd lp 0)=false:=beq_eq_false_iff_ne.mpr ci
              have ci2:(i != rd lp 0)=true:=bne_iff_ne.mpr ci
              by_cases cj:0≤i
              ·rw [if_pos cj,if_pos hi] at h
               replace h:=Option.bind_eq_some_iff.mp h
               obtain ⟨b,h1,h⟩:=h
               have A13:=A0_ h1
               have H:=A0_ h
               obtain ⟨adf,Af,cf,ef,hf0,hf1,hf2,hf3,hlf,hif⟩:=at_T26 Rf.out i cj hi
               cases ef
               have HLF:=A0_ hlf
               have HIF:=A0_ hif
               obtain ⟨rg15_0,rg15_1,rg15_2,rg15_3,rg15_4,rg15_5,rg15_6,rg15_7⟩:=B4.raw (X15.out)
               obtain ⟨rg10_0,rg10_1,rg10_2,rg10_3,rg10_4,rg10_5,rg10_6,rg10_7⟩:=B4.raw (X10.out)
               replace cj:=eq_true cj
               replace hi:=eq_true hi
               clear ci h h1 hlf hif cl
               cases b with
               |false=>
                obtain rfl:=Option.some.inj ((if_neg Bool.false_ne_true).symm.trans H.out)
                go_region_held3 (fun w'=>w'.cell? adp=some (.int .i64 (rd lp 0))∧w'.cell? ⟨g15,0,none⟩=some (.string q0)∧w'.cell? ⟨g15,1,none⟩=some (.string q1)∧w'.cell? ⟨g15,2,none⟩=some (.bool q2)∧w'.cell? ⟨g15,3,none⟩=some (.slice D14 lk.length d14)∧w'.cell? ⟨g10,3,none⟩=some (.slice (some adf) la.length d9)∧w'.cell? (adf.add (i.toNat * 4))=some (.string (rd_T26 la i).f0)∧w'.cell? ⟨(adf.add (i.toNat * 4)).block,(adf.add (i.toNat * 4)).off + 1,none⟩=some (.string (rd_T26 la i).f1)∧w'.cell? ⟨(adf.add (i.toNat * 4)).block,(adf.add (i.toNat * 4)).off + 2,none⟩=some (.bool (rd_T26 la i).f2)∧w'.cell? ⟨(adf.add (i.toNat * 4)).block,(adf.add (i.toNat * 4)).off + 3,none⟩=some (.slice Af (rd_T26 la i).f3.length cf)) (first|exact ⟨(cell_drew hxp),(cell_drew rg15_0),(cell_drew rg15_1),(cell_drew rg15_2),(cell_drew rg15_3),(cell_drew rg10_3),(cell_drew hf0),(cell_drew hf1),(cell_drew hf2),(cell_drew hf3)⟩|exact ⟨cell_b hxp hb,cell_b rg15_0 hb,cell_b rg15_1 hb,cell_b rg15_2 hb,cell_b rg15_3 hb,cell_b rg10_3 hb,cell_b hf0 hb,cell_b hf1 hb,cell_b hf2 hb,cell_b hf3 hb⟩)
                 (first|(go_at_call 12;refine (laws_sameTree.calls k4 _ _ _ _ _ _ _ _ _ _ _ _ false _ (Kd.C_drew Rk.out) Lk.out (Kd.C_drew HIF.out) HLF.out A13.out).mono ?_;rintro e w30 ⟨rfl,hb⟩;replace hb:=(below_step (below_drew1 (Below.refl _ _)) hb:Below w26.heap.size w26 w30)))
                go_wp2
                go_ret
                exact ⟨rfl,below_step HB.out hb⟩
               |true=>
                have H:=A0_ ((if_pos rfl).symm.trans H.out)
                go_region_held3 (fun w'=>w'.cell? adp=some (.int .i64 (rd lp 0))∧w'.cell? ⟨g15,0,none⟩=some (.string q0)∧w'.cell? ⟨g15,1,none⟩=some (.string q1)∧w'.cell? ⟨g15,2,none⟩=some (.bool q2)∧w'.cell? ⟨g15,3,none⟩=some (.slice D14 lk.length d14)∧w'.cell? ⟨g10,3,none⟩=some (.slice (some adf) la.length d9)∧w'.cell? (adf.add (i.toNat * 4))=some (.string (rd_T26 la i).f0)∧w'.cell? ⟨(adf.add (i.toNat * 4)).block,(adf.add (i.toNat * 4)).off + 1,none⟩=some (.string (rd_T26 la i).f1)∧w'.cell? ⟨(adf.add (i.toNat * 4)).block,(adf.add (i.toNat * 4)).off + 2,none⟩=some (.bool (rd_T26 la i).f2)∧w'.cell? ⟨(adf.add (i.toNat * 4)).block,(adf.add (i.toNat * 4)).off + 3,none⟩=some (.slice Af (rd_T26 la i).f3.length cf)) (first|exact ⟨(cell_drew hxp),(cell_drew rg15_0),(cell_drew rg15_1),(cell_drew rg15_2),(cell_drew rg15_3),(cell_drew rg10_3),(cell_drew hf0),(cell_drew hf1),(cell_drew hf2),(cell_drew hf3)⟩|exact ⟨cell_b hxp hb,cell_b rg15_0 hb,cell_b rg15_1 hb,cell_b rg15_2 hb,cell_b rg15_3 hb,cell_b rg10_3 hb,cell_b hf0 hb,cell_b hf1 hb,cell_b hf2 hb,cell_b hf3 hb⟩)
                 (first|(go_at_call 12;refine (laws_sameTree.calls k4 _ _ _ _ _ _ _ _ _ _ _ _ true _ (Kd.C_drew Rk.out) Lk.out (Kd.C_drew HIF.out) HLF.out A13.out).mono ?_;rintro e w30 ⟨rfl,hb⟩;replace hb:=(below_step (below_drew1 (Below.refl _ _)) hb:Below w26.heap.size w26 w30)))
                go_wp2
                go_roundg k4
                case measure=>have:=HK.out;omega
                case rel=>exact ⟨wrap64 (i + 1),rfl,H,⟨by have:=HK.out;omega⟩,⟨below_step HB.out hb⟩,⟨Kd.C_below Rp.out hb⟩,⟨Kd.C_below Ro.out hb⟩,⟨Kd.C_below Rf.out hb⟩,⟨B4.below X8.out hb⟩,⟨B4.below X10.out hb⟩⟩
              ·rw [if_neg cj] at h
               exact absurd h (by simp)
            ·rw [if_neg cl] at h
             exact absurd h (by simp)
           ·rw [if_neg ce] at h
            obtain rfl:=Option.some.inj h
            have c1:(e5 == 0)=false:=beq_eq_false_iff_ne.mpr ce
            have c2:(e5 != 0)=true:=bne_iff_ne.mpr ce
            clear ce h
            go_quiet (fail)
            go_wp2
            go_ret
            exact ⟨rfl,by first|exact HB.out|exact pw_below_drewN HB.out _⟩
          |false=>
           have h:=H.out
           clear H HI
           simp only [laws_FnTreePut.j3,Bool.false_eq_true,↓reduceIte] at h
           replace h:=Option.bind_eq_some_iff.mp h
           obtain ⟨⟨u0,u1,u2,lu,e3⟩,h1,h⟩:=h
           dsimp only at h
           have A11:=A0_ h1
           have H:=A0_ h
           clear h h1
           obtain ⟨rg10_0,rg10_1,rg10_2,rg10_3,rg10_4,rg10_5,rg10_6,rg10_7⟩:=B4.raw (X10.out)
           go_upto_region 21 with (first
            |(go_at_call 13;refine (impl_TreeAt.calls k4 _ _ _ _ _ _ _ _ _ u0 u1 u2 lu e3 _ Rf.out Lf.out Rp.out Lp.out A11.out).mono ?_;rintro e w23 ⟨v1,rfl,ho1,hb⟩;clear rg10_0 rg10_1 rg10_2 rg10_3 rg10_4 rg10_5 rg10_6 rg10_7;replace HB:=A0_ (below_step HB.out hb);replace Rp:=A0_ (Kd.C_below Rp.out hb);replace Ro:=A0_ (Kd.C_below Ro.out hb);replace Rf:=A0_ (Kd.C_below Rf.out hb);replace X8:=A0_ (B4.below X8.out hb);replace X10:=A0_ (B4.below X10.out hb);obtain ⟨D13,d13,rfl⟩:=Kd.R_slice ho1;have Lu:=A0_ (Kd.R_reads' ho1).2.1;have Ru:=A0_ (Kd.R_reads' ho1).2.2;clear ho1 hb)
            |((with_reducible refine gate_dst (N:=17) rfl ?_);(try (refine gate_guard (by rfl) ?_;dsimp only));refine box_event ?hg (N:=17) ?hd (cs:= #[.string (⟨#[]⟩:ByteArray), .string (⟨#[]⟩:ByteArray), .bool false, .slice none 0 0]) (t:=26) ?hr ?_;(case hd=>rfl);(case hg=>rfl);(case hr=>first|(go_simp;done)|(go_simp;rfl));intro g17 hg w24 hx hb;have Xg17:=A0_ hx;have Gg17:=A0_ hg;have Pg17:=A0_ hb;clear hg hx hb;obtain ⟨rg17_0,rg17_1,rg17_2,rg17_3,rg17_4,rg17_5,rg17_6,rg17_7⟩:=B4.raw (Xg17.out)))
           generalize hw:((((w24.setCell ⟨g17,0,none⟩ (.string u0)).setCell ⟨g17,1,none⟩ (.string u1)).setCell ⟨g17,2,none⟩ (.bool u2)).setCell ⟨g17,3,none⟩ (.slice D13 lu.length d13))=w25
           clear rg17_0 rg17_1 rg17_2 rg17_3 rg17_4 rg17_5 rg17_6 rg17_7
           replace hw:w25=St4 w24 g17 (.string u0) (.string u1) (.bool u2) (.slice D13 lu.length d13):=hw.symm
           obtain ⟨hb,x17, -⟩:=box1 (s:=w23) (by repeat (first|exact Below.refl _ _|apply below_alloc|apply pw_below_drewN|apply below_drew1)) Gg17.out Pg17.out Xg17.out hw
           clear Gg17 Pg17 Xg17 hw
           have X17:=A0_ x17
           replace HB:=A0_ (below_step HB.out hb)
           replace Rp:=A0_ (Kd.C_below Rp.out hb)
           replace Ro:=A0_ (Kd.C_below Ro.out hb)
           replace Rf:=A0_ (Kd.C_below Rf.out hb)
           replace Ru:=A0_ (Kd.C_below Ru.out hb)
           replace X8:=A0_ (B4.below X8.out hb)
           replace X10:=A0_ (B4.below X10.out hb)
           clear hb x17 A11
           have h:=H.out
           clear H
           by_cases ce:e3=0
           ·subst ce
            rw [if_pos rfl] at h
            replace h:=Option.bind_eq_some_iff.mp h
            obtain ⟨⟨t0,t1,t2,lt,e4⟩,h1,h⟩:=h
            dsimp only at h
            have A12:=A0_ h1
            have H:=A0_ h
            clear h h1
            obtain ⟨rg8_0,rg8_1,rg8_2,rg8_3,rg8_4,rg8_5,rg8_6,rg8_7⟩:=B4.raw (X8.out)
            obtain ⟨rg17_0,rg17_1,rg17_2,rg17_3,rg17_4,rg17_5,rg17_6,rg17_7⟩:=B4.raw (X17.out)
            go_upto_region 24 with (first
             |(go_at_call 11;refine (impl_TreePut.calls k4 _ _ _ (fun _=>True) _ _ _ _ _ _ _ _ _ _ _ _ t0 t1 t2 lt e4 _ (Kd.V_mk Lo.out (Kd.F_mono (Kd.C_F k26_heap Ro.out) (fun _ _=>trivial))) Rp.out Lp.out Ru.out Lu.out A12.out).mono ?_;rintro e w26 ⟨v1,rfl,ho1,hb⟩;clear rg8_0 rg8_1 rg8_2 rg8_3 rg8_4 rg8_5 rg8_6 rg8_7;clear rg17_0 rg17_1 rg17_2 rg17_3 rg17_4 rg17_5 rg17_6 rg17_7;clear Ro Lo X8 X17 Ru Lu Rp Lp;replace HB:=A0_ (below_step HB.out hb);replace Rf:=A0_ (Kd.C_below Rf.out hb);replace X10:=A0_ (B4.below X10.out hb);obtain ⟨D14,d14,rfl⟩:=Kd.N_slice ho1;have Lt:=A0_ (Kd.N_reads' ho1).2.1;have Rt:=A0_ (Kd.N_reads' ho1).2.2;clear ho1 hb)
             |((with_reducible refine gate_dst (N:=18) rfl ?_);(try (refine gate_guard (by rfl) ?_;dsimp only));refine box_event ?hg (N:=18) ?hd (cs:= #[.string (⟨#[]⟩:ByteArray), .string (⟨#[]⟩:ByteArray), .bool false, .slice none 0 0]) (t:=26) ?hr ?_;(case hd=>rfl);(case hg=>rfl);(case hr=>first|(go_simp;done)|(go_simp;rfl));intro g18 hg w27 hx hb;have Xg18:=A0_ hx;have Gg18:=A0_ hg;have Pg18:=A0_ hb;clear hg hx hb;obtain ⟨rg18_0,rg18_1,rg18_2,rg18_3,rg18_4,rg18_5,rg18_6,rg18_7⟩:=B4.raw (Xg18.out)))
            generalize hw:((((w27.setCell ⟨g18,0,none⟩ (.string t0)).setCell ⟨g18,1,none⟩ (.string t1)).setCell ⟨g18,2,none⟩ (.bool t2)).setCell ⟨g18,3,none⟩ (.slice D14 lt.length d14))=w28
            clear rg18_0 rg18_1 rg18_2 rg18_3 rg18_4 rg18_5 rg18_6 rg18_7
            replace hw:w28=St4 w27 g18 (.string t0) (.string t1) (.bool t2) (.slice D14 lt.length d14):=hw.symm
            obtain ⟨hb,x18, -⟩:=box1 (s:=w26) (by repeat (first|exact Below.refl _ _|apply below_alloc|apply pw_below_drewN|apply below_drew1)) Gg18.out Pg18.out Xg18.out hw
            clear Gg18 Pg18 Xg18 hw
            have X18:=A0_ x18
            replace HB:=A0_ (below_step HB.out hb)
            replace Rf:=A0_ (Kd.C_below Rf.out hb)
            replace Rt:=A0_ (Kd.C_below Rt.out hb)
            replace X10:=A0_ (B4.below X10.out hb)
            clear hb x18 A12
            have h:=H.out
            clear H
            by_cases ce:e4=0
            ·subst ce
             rw [if_pos rfl] at h
             replace h:=Option.bind_eq_some_iff.mp h
             obtain ⟨b,h1,h⟩:=h
             have A13:=A0_ h1
             have hk: ∃ k5,k4=k5 + 1:=by
              cases k4 with
              |zero=>exact absurd h (by simp [laws_FnTreePut.j4])
              |succ k=>exact ⟨k,rfl⟩
             obtain ⟨k5,rfl⟩:=hk
             clear h1
             obtain ⟨rg18_0,rg18_1,rg18_2,rg18_3,rg18_4,rg18_5,rg18_6,rg18_7⟩:=B4.raw (X18.out)
             obtain ⟨rg10_0,rg10_1,rg10_2,rg10_3,rg10_4,rg10_5,rg10_6,rg10_7⟩:=B4.raw (X10.out)
             cases b with
             |false=>
              simp only [laws_FnTreePut.j4,Bool.not_false,↓reduceIte] at h
              obtain rfl:=Option.some.inj h
              clear h
              go_wp2_with (go_at_call 12;refine (laws_sameTree.calls (k5 + 1) _ _ _ _ _ _ _ _ _ _ _ _ false _ Rt.out Lt.out Rf.out Lf.out A13.out).mono ?_;rintro e w29 ⟨rfl,hb⟩;replace HB:=A0_ (below_step HB.out hb);clear hb)
              go_ret
              exact ⟨rfl,by first|exact HB.out|exact pw_below_drewN HB.out _⟩
             |true=>
              simp only [laws_FnTreePut.j4,Bool.not_true,Bool.false_eq_true,↓reduceIte] at h
              replace h:=Option.bind_eq_some_iff.mp h
              obtain ⟨⟨y1,z1⟩,h1,h⟩:=h
              dsimp only at h
              replace h:=Option.bind_eq_some_iff.mp h
              obtain ⟨⟨y2,z2⟩,h2,h⟩:=h
              dsimp only at h
              have A14:=A0_ h1
              have A15:=A0_ h2
              clear h1 h2
              have hz:(y1 == y2 && z2 == 0)=r:=by
               by_cases e:z2=0
               ·rw [if_pos e] at h
                obtain rfl:=Option.some.inj h
                simp [e]
               ·rw [if_neg e] at h
                obtain rfl:=Option.some.inj h
                simp [e]
              clear h
              go_upto_region 26 with (go_at_call 12;refine (laws_sameTree.calls (k5 + 1) _ _ _ _ _ _ _ _ _ _ _ _ true _ Rt.out Lt.out Rf.out Lf.out A13.out).mono ?_;rintro e w29 ⟨rfl,hb⟩;clear rg18_0 rg18_1 rg18_2 rg18_3 rg18_4 rg18_5 rg18_6 rg18_7;clear rg10_0 rg10_1 rg10_2 rg10_3 rg10_4 rg10_5 rg10_6 rg10_7;replace HB:=A0_ (below_step HB.out hb);replace Rf:=A0_ (Kd.C_below Rf.out hb);replace Rt:=A0_ (Kd.C_below Rt.out hb);replace X10:=A0_ (B4.below X10.out hb);replace X18:=A0_ (B4.below X18.out hb);clear hb)
              obtain ⟨rg18_0,rg18_1,rg18_2,rg18_3,rg18_4,rg18_5,rg18_6,rg18_7⟩:=B4.raw (X18.out)
              go_upto_region 27 with (go_at_call 14;refine (impl_TreeHash.calls k5 _ _ _ _ _ _ y1 z1 _ Rt.out Lt.out A14.out).mono ?_;rintro e w30 ⟨rfl,hb⟩;clear rg18_0 rg18_1 rg18_2 rg18_3 rg18_4 rg18_5 rg18_6 rg18_7;clear Rt Lt X18;replace HB:=A0_ (below_step HB.out hb);replace Rf:=A0_ (Kd.C_below Rf.out hb);replace X10:=A0_ (B4.below X10.out hb);clear hb)
              obtain ⟨rg10_0,rg10_1,rg10_2,rg10_3,rg10_4,rg10_5,rg10_6,rg10_7⟩:=B4.raw (X10.out)
              by_cases cz:z2=0
              ·subst cz
               go_wp2_with (go_at_call 15;refine (spec_TreeHash.calls k5 _ _ _ _ _ _ y2 0 _ Rf.out Lf.out A15.out).mono ?_;rintro e w31 ⟨rfl,hb⟩;replace HB:=A0_ (below_step HB.out hb);clear hb)
               go_ret
               exact ⟨by rw [← hz];simp,by first|exact HB.out|exact pw_below_drewN HB.out _⟩
              ·have cz1:(z2 == 0)=false:=beq_eq_false_iff_ne.mpr cz
               clear cz
               go_wp2_with (go_at_call 15;refine (spec_TreeHash.calls k5 _ _ _ _ _ _ y2 z2 _ Rf.out Lf.out A15.out).mono ?_;rintro e w31 ⟨rfl,hb⟩;replace HB:=A0_ (below_step HB.out hb);clear hb)
               go_ret
               exact ⟨by rw [← hz];simp [cz1],by first|exact HB.out|exact pw_below_drewN HB.out _⟩
            ·rw [if_neg ce] at h
             have hk: ∃ k5,k4=k5 + 1:=by
              cases k4 with
              |zero=>exact absurd h (by simp [laws_FnTreePut.j4])
              |succ k=>exact ⟨k,rfl⟩
             obtain ⟨k5,rfl⟩:=hk
             simp only [laws_FnTreePut.j4,↓reduceIte] at h
             obtain rfl:=Option.some.inj h
             have c1:(e4 == 0)=false:=beq_eq_false_iff_ne.mpr ce
             have c2:(e4 != 0)=true:=bne_iff_ne.mpr ce
             clear ce h
             go_wp2
             go_ret
             exact ⟨rfl,by first|exact HB.out|exact pw_below_drewN HB.out _⟩
           ·rw [if_neg ce] at h
            obtain rfl:=Option.some.inj h
            have c1:(e3 == 0)=false:=beq_eq_false_iff_ne.mpr ce
            have c2:(e3 != 0)=true:=bne_iff_ne.mpr ce
            clear ce h
            go_wp2
            go_ret
            exact ⟨rfl,by first|exact HB.out|exact pw_below_drewN HB.out _⟩
     ·rw [if_neg ce] at h
      have hk: ∃ k2,k1=k2 + 1:=by
       cases k1 with
       |zero=>exact absurd h (by simp [laws_FnTreePut.j1])
       |succ k=>exact ⟨k,rfl⟩
      obtain ⟨k2,rfl⟩:=hk
      simp only [laws_FnTreePut.j1,↓reduceIte] at h
      obtain rfl:=Option.some.inj h
      have c1:(e2 == 0)=false:=beq_eq_false_iff_ne.mpr ce
      have c2:(e2 != 0)=true:=bne_iff_ne.mpr ce
      clear ce h
      go_wp2
      go_ret
      exact ⟨rfl,by first|exact HB.out|exact pw_below_drewN HB.out _⟩
    ·rw [if_neg c0] at h
     obtain rfl:=Option.some.inj h
     have c1:(e1 == 0)=false:=beq_eq_false_iff_ne.mpr c0
     have c2:(e1 != 0)=true:=bne_iff_ne.mpr c0
     clear c0 h
     go_wp2_with (go_at_call 12;refine (laws_sameTree.calls (k1 + 1) _ _ _ _ _ _ _ _ _ _ _ _ true _ Ro.out Lo.out Rq.out Lq.out A8.out).mono ?_;rintro e w13 ⟨rfl,hb⟩;replace HB:=A0_ (below_step HB.out hb);clear hb)
     go_ret
     exact ⟨rfl,by first|exact HB.out|exact pw_below_drewN HB.out _⟩
  ·rw [if_neg ce] at h
   have ce1:(e1 == we)=false:=beq_eq_false_iff_ne.mpr ce
   have ce2:(e1 != we)=true:=bne_iff_ne.mpr ce
   clear ce
   cases k with
   |zero=>exact absurd h (by simp [laws_FnTreePut.j0])
   |succ k=>
    simp only [laws_FnTreePut.j0,↓reduceIte] at h
    obtain rfl:=Option.some.inj h
    clear h
    go_wp2
    go_ret
    exact ⟨rfl,by first|exact HB.out|exact pw_below_drewN HB.out _⟩
def laws_FnTreePut.Pure:Prop:= ∀ (l0:List Int),l0.length≤maxLen→l0.length * 1≤140737488351232→(∀ x∈l0,(Lit.int .u8 x).wf=true)→ ∃ k,laws_FnTreePut.f k l0=some true
theorem laws_FnTreePut.walk (P:laws_FnTreePut.Pure) (a0:Option Addr) (len0 cap0:Nat) (z0:List Int) (w:World) (w0:(a0=none∧len0=0∧cap0=0∧z0= [])∨ ∃ x,a0=some x∧len0≤cap0∧cap0≤maxLen∧z0.length=cap0∧(∀ i,i < z0.length→w.cell? (x.add i)=some (.int .u8 (z0.getD i 0)))∧ ∀ n∈z0,(Lit.int .u8 n).wf=true) (y0:len0 * 1≤140737488351232):
  Calls Try.prog 3 #[.slice a0 len0 cap0] w fun e w'=>e= .returned (.bool true)∧Below w.heap.size w w':=by
 obtain ⟨l0,rfl,hr0,hm0,hw0,hc0⟩:=ReadsInt.ofRowC w0
 obtain ⟨k,h⟩:=P l0 hm0 y0 hw0
 refine (laws_FnTreePut.calls k _ _ l0 true w (Kd.C_of_reads (d:=(0:Int)) (h1:=fun _=>rfl) hr0) hc0 h).mono ?_
 rintro e w' ⟨rfl,hd⟩
 exact ⟨rfl,hd⟩
end Go.Proofs.Ytakpkmkjhndpjaa.Q
end
section
namespace Go.Proofs.Ytakpkmkjhndpjaa.Pure
open Go.RowKit Go.Proofs.Ytakpkmkjhndpjaa.Q Go.Proofs.YtakpkmkjhndpjaaW.PrintWords Go.Proofs.YtakpkmkjhndpjaaW.PrintLast
def Ev {α:Type} (F:Nat→Option α) (r:α):Prop:= ∃ k,∀ j,k≤j→F j=some r
theorem Ev.pure {α:Type} (r:α):Ev (fun _=>some r) r:=⟨0,fun _ _=>rfl⟩
theorem Ev.bind {α β:Type} {F:Nat→Option α} {G:Nat→α→Option β} {a:α} {r:β} (h:Ev F a) (g:Ev (fun k=>G k a) r):Ev (fun k=>(F k).bind (G k)) r:=by
 obtain ⟨k1,h1⟩:=h
 obtain ⟨k2,h2⟩:=g
 exact ⟨max k1 k2,fun j hj=>by simp [h1 j (by omega),h2 j (by omega)]⟩
theorem Ev.succ {α:Type} {F G:Nat→Option α} {r:α} (h:Ev G r) (e: ∀ k,F (k + 1)=G k):Ev F r:=by
 obtain ⟨k,h1⟩:=h
 refine ⟨k + 1,fun j hj=> ?_⟩
 cases j with
 |zero=>omega
 |succ j=>rw [e];exact h1 j (by omega)
theorem Ev.congr {α:Type} {F G:Nat→Option α} {r:α} (h:Ev G r) (e: ∀ k,F k=G k):Ev F r:=by
 obtain ⟨k,h1⟩:=h
 exact ⟨k,fun j hj=>by rw [e];exact h1 j hj⟩
mutual
def cnt:S26→Nat
 |⟨_,_,_,l⟩=>1 + cntL l
def cntL:List S26→Nat
 | []=>0
 |t :: l=>cnt t + cntL l
end
mutual
def dep:S26→Nat
 |⟨_,_,_,l⟩=>1 + depL l
def depL:List S26→Nat
 | []=>0
 |t :: l=>max (dep t) (depL l)
end
inductive Small:S26→Prop
 |mk (a b:ByteArray) (c:Bool) (l:List S26) (hl:l.length≤4000) (ha:a.size≤4000) (hb:b.size≤4000) (h: ∀ t∈l,Small t):Small ⟨a,b,c,l⟩
theorem wrap_id {x:Int} (h1: -9223372036854775808≤x) (h2:x < 9223372036854775808):wrap64 x=x:=by
 unfold wrap64;omega
theorem rdT (l:List S26) (i:Nat) (h:i < l.length):rd_T26 l (i:Int)=l[i]:=by
 simp [rd_T26,List.getD,h]
def RoomP (c d:Nat) (a b r:Int):Prop:=((c:Int)≤a∧(d:Int)≤b∧r=a - c)∨(¬ ((c:Int)≤a∧(d:Int)≤b)∧r < 0)
theorem room_loop (a b:ByteArray) (c:Bool) (l:List S26) (d:Int) (hd:1≤d∧d≤60) (hl:l.length≤4000)
  (ih: ∀ t∈l,∀ x:Int,0≤x→x≤1000→ ∃ r,Ev (fun k=>spec_l01Room.f k t.f0 t.f1 t.f2 t.f3 x (wrap64 (d - 1))) r∧RoomP (cnt t) (dep t) x (d - 1) r∧ -1≤r∧r≤1000):
  ∀ (n i:Nat) (x:Int),l.length - i=n→i≤l.length→ -1≤x→x≤1000→ ∃ r,Ev (fun k=>spec_l01Room.l0 k x d (i:Int) a b c l) r∧RoomP (cntL (l.drop i)) (depL (l.drop i)) x (d - 1) r∧ -1≤r∧r≤1000:=by
 intro n
 induction n with
 |zero=>
  intro i x hn hi h1 h2
  have e:i=l.length:=by omega
  subst e
  refine ⟨x,Ev.succ (Ev.pure x) (fun k=>by simp [spec_l01Room.l0]), ?_,h1,h2⟩
  simp only [List.drop_length,cntL,depL,RoomP]
  omega
 |succ n IH=>
  intro i x hn hi h1 h2
  have hlt:i < l.length:=by omega
  have hdrop:l.drop i=l[i] :: l.drop (i + 1):=List.drop_eq_getElem_cons hlt
  by_cases hx:0≤x
  ·obtain ⟨r1,e1,p1,b1,b2⟩:=ih l[i] (List.getElem_mem hlt) x hx h2
   obtain ⟨r2,e2,p2,b3,b4⟩:=IH (i + 1) r1 (by omega) (by omega) b1 b2
   refine ⟨r2,Ev.succ (Ev.bind (G:=fun k y=>spec_l01Room.l0 k y d ((i + 1:Nat):Int) a b c l) e1 e2) (fun k=> ?_), ?_,b3,b4⟩
   ·have w1:wrap64 ((i:Int) + 1)=((i + 1:Nat):Int):=by rw [wrap_id (by omega) (by omega)];omega
    simp only [spec_l01Room.l0,rdT l i hlt,w1]
    rw [if_pos (by omega),if_pos hx,if_pos (by omega)]
   ·rw [hdrop]
    simp only [cntL,depL,RoomP] at p1 p2 ⊢
    omega
  ·refine ⟨x,Ev.succ (Ev.pure x) (fun k=> ?_), ?_,h1,h2⟩
   ·simp only [spec_l01Room.l0]
    rw [if_pos (by omega),if_neg hx]
   ·simp only [RoomP]
    omega
theorem room_ev: ∀ (t:S26),Small t→ ∀ (x d:Int),0≤x→x≤1000→0≤d→d≤60→ ∃ r,Ev (fun k=>spec_l01Room.f k t.f0 t.f1 t.f2 t.f3 x d) r∧RoomP (cnt t) (dep t) x d r∧ -1≤r∧r≤1000:=by
 intro t hs
 induction hs with
 |mk a b c l hl ha hb h ih=>
  intro x d h1 h2 h3 h4
  by_cases hd:d < 1
  ·refine ⟨-1,Ev.succ (Ev.pure (-1)) (fun k=>by simp only [spec_l01Room.f];rw [if_pos hd]), ?_,by omega,by omega⟩
   simp only [RoomP,cnt,dep]
   omega
  ·have hw:wrap64 (d - 1)=d - 1:=wrap_id (by omega) (by omega)
   ·obtain ⟨r,e,p,b1,b2⟩:=room_loop a b c l d ⟨by omega,h4⟩ hl (fun t ht y y1 y2=>by rw [hw];exact ih t ht y (d - 1) y1 y2 (by omega) (by omega)) l.length 0 (x - 1) (by omega) (by omega) (by omega) (by omega)
    refine ⟨r,Ev.succ e (fun k=> ?_), ?_,b1,b2⟩
    ·simp only [spec_l01Room.f]
     rw [if_neg hd,wrap_id (x:=x - 1) (by omega) (by omega)]
     rfl
    ·simp only [RoomP,cnt,dep,List.drop_zero] at p ⊢
     omega
def letB (x:Int):Bool:=decide ((97≤x∧x≤122)∨(65≤x∧x≤90))
def digB (x:Int):Bool:=decide (48≤x∧x≤57)
def namB (x:Int):Bool:=letB x || digB x || x == 95
theorem sLetter (x:Int):spec_l01Letter.f x=some (letB x):=by
 unfold spec_l01Letter.f letB
 repeat' split
 all_goals (congr 1;first|(rw [decide_eq_decide];omega)|(symm;apply decide_eq_true;omega)|(symm;apply decide_eq_false;omega))
theorem iLetter (x:Int):impl_isLetter.f x=some (letB x):=by
 unfold impl_isLetter.f letB
 repeat' split
 all_goals (congr 1;first|(rw [decide_eq_decide];omega)|(symm;apply decide_eq_true;omega)|(symm;apply decide_eq_false;omega))
theorem sDigit (x:Int):spec_l01Digit.f x=some (digB x):=by
 unfold spec_l01Digit.f digB
 split
 all_goals (congr 1;first|(rw [decide_eq_decide];omega)|(symm;apply decide_eq_true;omega)|(symm;apply decide_eq_false;omega))
theorem iDigit (x:Int):impl_isDigit.f x=some (digB x):=by
 unfold impl_isDigit.f digB
 split
 all_goals (congr 1;first|(rw [decide_eq_decide];omega)|(symm;apply decide_eq_true;omega)|(symm;apply decide_eq_false;omega))
theorem sNameByte (x:Int):spec_l01NameByte.f x=some (namB x):=by
 unfold spec_l01NameByte.f namB
 rw [sLetter,sDigit]
 cases letB x <;> cases digB x <;> rfl
theorem iInName (x:Int):impl_inName.f x=some (namB x):=by
 unfold impl_inName.f namB
 rw [iLetter,iDigit]
 cases letB x <;> cases digB x <;> rfl
def restB (a:ByteArray) (i:Nat):Bool:=(List.range (a.size - i)).all fun j=>namB (bt a ((i + j:Nat):Int))
theorem restB_end (a:ByteArray) (i:Nat) (h:a.size≤i):restB a i=true:=by
 simp [restB,Nat.sub_eq_zero_of_le h]
theorem restB_step (a:ByteArray) (i:Nat) (h:i < a.size):restB a i=(namB (bt a (i:Int)) && restB a (i + 1)):=by
 have e:a.size - i=(a.size - (i + 1)) + 1:=by omega
 simp only [restB,e,List.range_succ_eq_map,List.all_cons,List.all_map,Nat.add_zero]
 congr 1
 congr 1
 funext j
 simp only [Function.comp]
 congr 3
 omega
theorem sName_loop (a:ByteArray) (ha:a.size≤4000): ∀ (n i:Nat),a.size - i=n→i≤a.size→Ev (fun k=>spec_l01Name.l0 k a (i:Int)) (restB a i):=by
 intro n
 induction n with
 |zero=>
  intro i hn hi
  rw [restB_end a i (by omega)]
  exact Ev.succ (Ev.pure true) (fun k=>by simp only [spec_l01Name.l0];rw [if_neg (by omega)])
 |succ n ih=>
  intro i hn hi
  have hw:wrap64 ((i:Int) + 1)=((i + 1:Nat):Int):=by rw [wrap_id (by omega) (by omega)];omega
  rw [restB_step a i (by omega)]
  cases hb:namB (bt a (i:Int)) with
  |true=>exact Ev.succ (ih (i + 1) (by omega) (by omega)) (fun k=>by simp only [spec_l01Name.l0,sNameByte,hb,hw];rw [if_pos (by omega),if_pos (by omega)];rfl)
  |false=>exact Ev.succ (Ev.pure false) (fun k=>by simp only [spec_l01Name.l0,sNameByte,hb,hw];rw [if_pos (by omega),if_pos (by omega)];rfl)
theorem iName_loop (a:ByteArray) (ha:a.size≤4000): ∀ (n i:Nat),a.size - i=n→i≤a.size→Ev (fun k=>impl_nameOK.l0 k a (i:Int)) (restB a i):=by
 intro n
 induction n with
 |zero=>
  intro i hn hi
  rw [restB_end a i (by omega)]
  exact Ev.succ (Ev.pure true) (fun k=>by simp only [impl_nameOK.l0];rw [if_neg (by omega)])
 |succ n ih=>
  intro i hn hi
  have hw:wrap64 ((i:Int) + 1)=((i + 1:Nat):Int):=by rw [wrap_id (by omega) (by omega)];omega
  rw [restB_step a i (by omega)]
  cases hb:namB (bt a (i:Int)) with
  |true=>exact Ev.succ (ih (i + 1) (by omega) (by omega)) (fun k=>by simp only [impl_nameOK.l0,iInName,hb,hw];rw [if_pos (by omega),if_pos (by omega)];rfl)
  |false=>exact Ev.succ (Ev.pure false) (fun k=>by simp only [impl_nameOK.l0,iInName,hb,hw];rw [if_pos (by omega),if_pos (by omega)];rfl)
def nameB (a:ByteArray):Bool:=decide (1≤a.size∧a.size≤24) && (letB (bt a 0) && restB a 1)
theorem bt0_nam (x:Int) (h:letB x=true):namB x=true:=by simp [namB,h]
theorem sName (a:ByteArray) (ha:a.size≤4000):Ev (fun k=>spec_l01Name.f k a) (nameB a):=by
 unfold spec_l01Name.f
 by_cases h1:(a.size:Int) < 1
 ·have e:nameB a=false:=by simp [nameB];omega
  rw [e]
  exact Ev.congr (Ev.succ (F:=fun k=>spec_l01Name.j0 k a true) (Ev.pure false) (fun k=>rfl)) (fun k=>by rw [if_pos h1])
 ·by_cases h2:(a.size:Int) > 24
  ·have e:nameB a=false:=by simp [nameB];omega
   rw [e]
   exact Ev.congr (Ev.succ (F:=fun k=>spec_l01Name.j0 k a true) (Ev.pure false) (fun k=>rfl)) (fun k=>by rw [if_neg h1,if_pos h2])
  ·have e:nameB a=(letB (bt a 0) && restB a 1):=by
    have:decide (1≤a.size∧a.size≤24)=true:=decide_eq_true (by omega)
    simp only [nameB,this,Bool.true_and]
   rw [e]
   have g:=sName_loop a ha (a.size - 1) 1 rfl (by omega)
   cases hb:letB (bt a 0) with
   |true=>exact Ev.congr (Ev.succ (F:=fun k=>spec_l01Name.j0 k a false) g (fun k=>rfl)) (fun k=>by rw [if_neg h1,if_neg h2,if_pos (by omega),sLetter,hb];rfl)
   |false=>exact Ev.congr (Ev.succ (F:=fun k=>spec_l01Name.j0 k a true) (Ev.pure false) (fun k=>rfl)) (fun k=>by rw [if_neg h1,if_neg h2,if_pos (by omega),sLetter,hb];rfl)
theorem iName (a:ByteArray) (ha:a.size≤4000):Ev (fun k=>impl_nameOK.f k a) (nameB a):=by
 unfold impl_nameOK.f
 by_cases h1:(a.size:Int) < 1
 ·have e:nameB a=false:=by simp [nameB];omega
  rw [e]
  exact Ev.congr (Ev.succ (F:=fun k=>impl_nameOK.j0 k a true) (Ev.pure false) (fun k=>rfl)) (fun k=>by rw [if_pos h1])
 ·by_cases h2:(a.size:Int) > 24
  ·have e:nameB a=false:=by simp [nameB];omega
   rw [e]
   exact Ev.congr (Ev.succ (F:=fun k=>impl_nameOK.j0 k a true) (Ev.pure false) (fun k=>rfl)) (fun k=>by rw [if_neg h1,if_pos h2])
  ·have e:nameB a=(letB (bt a 0) && restB a 1):=by
    have:decide (1≤a.size∧a.size≤24)=true:=decide_eq_true (by omega)
    simp only [nameB,this,Bool.true_and]
   rw [e]
   have g:=iName_loop a ha a.size 0 (by omega) (by omega)
   cases hb:letB (bt a 0) with
   |true=>
    have r:restB a 0=restB a 1:=by
     rw [restB_step a 0 (by omega)]
     show (namB (bt a 0) && restB a 1)=restB a 1
     rw [bt0_nam _ hb,Bool.true_and]
    rw [r] at g
    exact Ev.congr (Ev.succ (F:=fun k=>impl_nameOK.j0 k a false) g (fun k=>rfl)) (fun k=>by rw [if_neg h1,if_neg h2,if_pos (by omega),iLetter,hb];rfl)
   |false=>exact Ev.congr (Ev.succ (F:=fun k=>impl_nameOK.j0 k a true) (Ev.pure false) (fun k=>rfl)) (fun k=>by rw [if_neg h1,if_neg h2,if_pos (by omega),iLetter,hb];rfl)
def selfB (a b:ByteArray) (c:Bool) (l:List S26):Bool:=nameB a && (if c=true then decide (l.length=0) && decide (b.size≤200) else decide (b.toList= []))
mutual
def rightB:S26→Bool
 |⟨a,b,c,l⟩=>selfB a b c l && rightL l
def rightL:List S26→Bool
 | []=>true
 |t :: l=>rightB t && rightL l
end
theorem sRight_loop (a b:ByteArray) (c:Bool) (l:List S26) (hl:l.length≤4000) (ih: ∀ t∈l,Ev (fun k=>spec_l01Right.f k t.f0 t.f1 t.f2 t.f3) (rightB t)):
  ∀ (n i:Nat),l.length - i=n→i≤l.length→Ev (fun k=>spec_l01Right.l0 k (i:Int) a b c l) (rightL (l.drop i)):=by
 intro n
 induction n with
 |zero=>
  intro i hn hi
  have e:i=l.length:=by omega
  subst e
  rw [List.drop_length]
  exact Ev.succ (Ev.pure true) (fun k=>by simp only [spec_l01Right.l0];rw [if_neg (by omega)])
 |succ n IH=>
  intro i hn hi
  have hlt:i < l.length:=by omega
  have hdrop:l.drop i=l[i] :: l.drop (i + 1):=List.drop_eq_getElem_cons hlt
  have hw:wrap64 ((i:Int) + 1)=((i + 1:Nat):Int):=by rw [wrap_id (by omega) (by omega)];omega
  rw [hdrop,rightL]
  have g1:=ih l[i] (List.getElem_mem hlt)
  refine Ev.succ (Ev.bind (G:=fun k y=>if y=true then spec_l01Right.l0 k ((i + 1:Nat):Int) a b c l else some false) g1 ?_) (fun k=> ?_)
  ·cases rightB l[i] with
   |true=>exact Ev.congr (IH (i + 1) (by omega) (by omega)) (fun k=>rfl)
   |false=>exact Ev.pure false
  ·simp only [spec_l01Right.l0,rdT l i hlt,hw]
   rw [if_pos (by omega),if_pos (by omega)]
theorem sRight: ∀ (t:S26),Small t→Ev (fun k=>spec_l01Right.f k t.f0 t.f1 t.f2 t.f3) (rightB t):=by
 intro t hs
 induction hs with
 |mk a b c l hl ha hb h ih=>
  have no:Ev (fun k=>spec_l01Right.j0 k true a b c l) false:=Ev.succ (Ev.pure false) (fun k=>rfl)
  have go:Ev (fun k=>spec_l01Right.j0 k false a b c l) (rightL l):=Ev.succ (sRight_loop a b c l hl ih l.length 0 rfl (by omega)) (fun k=>rfl)
  refine Ev.succ (Ev.bind (sName a ha) (G:=fun k y=>if y=true then (if c=true then (if (l.length:Int) > 0 then (spec_l01Right.j0 k true a b c l) else (if (b.size:Int) > 200 then (spec_l01Right.j0 k true a b c l) else (spec_l01Right.j0 k false a b c l))) else (spec_l01Right.j0 k (b.toList != ([]:List UInt8)) a b c l)) else (spec_l01Right.j0 k true a b c l)) ?_) (fun k=>rfl)
  simp only [rightB,selfB]
  cases nameB a with
  |false=>exact Ev.congr no (fun k=>rfl)
  |true=>
   simp only [↓reduceIte,Bool.true_and]
   cases c with
   |true=>
    simp only [↓reduceIte]
    by_cases h1:(l.length:Int) > 0
    ·have e:decide (l.length=0)=false:=decide_eq_false (by omega)
     rw [e,Bool.false_and,Bool.false_and]
     exact Ev.congr no (fun k=>by rw [if_pos h1])
    ·by_cases h2:(b.size:Int) > 200
     ·have e:decide (b.size≤200)=false:=decide_eq_false (by omega)
      rw [e,Bool.and_false,Bool.false_and]
      exact Ev.congr no (fun k=>by rw [if_neg h1,if_pos h2])
     ·have e1:decide (l.length=0)=true:=decide_eq_true (by omega)
      have e2:decide (b.size≤200)=true:=decide_eq_true (by omega)
      rw [e1,e2,Bool.true_and,Bool.true_and]
      exact Ev.congr go (fun k=>by rw [if_neg h1,if_neg h2])
   |false=>
    simp only [Bool.false_eq_true,↓reduceIte]
    by_cases h1:b.toList= []
    ·have e:decide (b.toList= [])=true:=decide_eq_true h1
     have e2:(b.toList != ([]:List UInt8))=false:=by rw [h1];rfl
     rw [e,Bool.true_and,e2]
     exact go
    ·have e:decide (b.toList= [])=false:=decide_eq_false h1
     have e2:(b.toList != ([]:List UInt8))=true:=bne_iff_ne.mpr h1
     rw [e,Bool.false_and,e2]
     exact no
def okB (t:S26):Bool:=decide (cnt t≤1000) && (decide (dep t≤60) && rightB t)
theorem sTreeOK (t:S26) (hs:Small t):Ev (fun k=>spec_TreeOK.f k t.f0 t.f1 t.f2 t.f3) (okB t):=by
 obtain ⟨r,e,p, -, -⟩:=room_ev t hs 1000 60 (by omega) (by omega) (by omega) (by omega)
 refine Ev.congr (Ev.bind e (G:=fun k y=>if y ≥ 0 then ((spec_l01Right.f k t.f0 t.f1 t.f2 t.f3).bind fun t340=>(some t340)) else (some false)) ?_) (fun k=>rfl)
 by_cases hr:r ≥ 0
 ·have e1:decide (cnt t≤1000)=true:=decide_eq_true (by simp only [RoomP] at p;omega)
  have e2:decide (dep t≤60)=true:=decide_eq_true (by simp only [RoomP] at p;omega)
  simp only [okB,e1,e2,Bool.true_and]
  exact Ev.congr (Ev.bind (sRight t hs) (Ev.pure _)) (fun k=>by rw [if_pos hr])
 ·have e1:okB t=false:=by
   simp only [RoomP] at p
   by_cases h1:cnt t≤1000
   ·have h2: ¬ dep t≤60:=by omega
    simp only [okB,decide_eq_false h2,Bool.false_and,Bool.and_false]
   ·simp only [okB,decide_eq_false h1,Bool.false_and]
  rw [e1]
  exact Ev.congr (Ev.pure false) (fun k=>by rw [if_neg hr])
def MeasP (c dd:Nat) (rt:Bool) (n dp:Int) (v:Bool) (n':Int):Prop:=(v=true ↔ (n + c≤1000∧dd + dp≤61∧rt=true))∧(v=true→n'=n + c)
theorem meas_loop (dp:Int) (hd:1≤dp∧dp≤60) (l:List S26) (hl:l.length≤4000)
  (ih: ∀ t∈l,∀ n d:Int,0≤n→n≤1000→ ∃ v n' d',Ev (fun k=>impl_measure.f k t.f0 t.f1 t.f2 t.f3 (wrap64 (dp + 1)) n d) (v,n',d')∧MeasP (cnt t) (dep t) (rightB t) n (dp + 1) v n'):
  ∀ (m i:Nat) (n d:Int),l.length - i=m→i≤l.length→0≤n→n≤1000→ ∃ v n' d',Ev (fun k=>impl_measure.l0 k (i:Int) dp n d l) (v,n',d')∧MeasP (cntL (l.drop i)) (depL (l.drop i)) (rightL (l.drop i)) n (dp + 1) v n':=by
 intro m
 induction m with
 |zero=>
  intro i n d hm hi h1 h2
  have e:i=l.length:=by omega
  subst e
  refine ⟨true,n,d,Ev.succ (Ev.pure _) (fun k=>by simp only [impl_measure.l0];rw [if_neg (by omega)]), ?_⟩
  simp only [List.drop_length,cntL,depL,rightL,MeasP]
  refine ⟨⟨fun _=>⟨by omega,by omega,trivial⟩,fun _=>trivial⟩,fun _=>by omega⟩
 |succ m IH=>
  intro i n d hm hi h1 h2
  have hlt:i < l.length:=by omega
  have hdrop:l.drop i=l[i] :: l.drop (i + 1):=List.drop_eq_getElem_cons hlt
  have hw:wrap64 ((i:Int) + 1)=((i + 1:Nat):Int):=by rw [wrap_id (by omega) (by omega)];omega
  obtain ⟨v1,n1,d1,e1,p1,q1⟩:=ih l[i] (List.getElem_mem hlt) n d h1 h2
  rw [hdrop]
  simp only [cntL,depL,rightL]
  cases v1 with
  |false=>
   refine ⟨false,n1,d1,Ev.succ (Ev.bind (G:=fun k (t:Bool × Int × Int)=>if t.1=true then (impl_measure.l0 k ((i + 1:Nat):Int) dp t.2.1 t.2.2 l) else (some (false,t.2.1,t.2.2))) e1 (Ev.congr (Ev.pure _) (fun k=>rfl))) (fun k=> ?_), ?_⟩
   ·simp only [impl_measure.l0,rdT l i hlt,hw]
    rw [if_pos (by omega),if_pos (by omega)]
   ·refine ⟨⟨fun e=>absurd e (by decide),fun e=> ?_⟩,fun e=>absurd e (by decide)⟩
    obtain ⟨a1,a2,a3⟩:=e
    rw [Bool.and_eq_true] at a3
    exact absurd (p1.mpr ⟨by omega,by omega,a3.1⟩) (by decide)
  |true=>
   obtain ⟨b1,b2,b3⟩:=p1.mp rfl
   have b4:=q1 rfl
   obtain ⟨v2,n2,d2,e2,p2,q2⟩:=IH (i + 1) n1 d1 (by omega) (by omega) (by omega) (by omega)
   refine ⟨v2,n2,d2,Ev.succ (Ev.bind (G:=fun k (t:Bool × Int × Int)=>if t.1=true then (impl_measure.l0 k ((i + 1:Nat):Int) dp t.2.1 t.2.2 l) else (some (false,t.2.1,t.2.2))) e1 (Ev.congr e2 (fun k=>rfl))) (fun k=> ?_), ?_⟩
   ·simp only [impl_measure.l0,rdT l i hlt,hw]
    rw [if_pos (by omega),if_pos (by omega)]
   ·refine ⟨⟨fun e=> ?_,fun e=> ?_⟩,fun e=> ?_⟩
    ·obtain ⟨a1,a2,a3⟩:=p2.mp e
     exact ⟨by omega,by omega,by rw [b3,a3];rfl⟩
    ·obtain ⟨a1,a2,a3⟩:=e
     rw [Bool.and_eq_true] at a3
     exact p2.mpr ⟨by omega,by omega,a3.2⟩
    ·have:=q2 e
     omega
theorem meas_ev: ∀ (t:S26),Small t→ ∀ (dp n d:Int),1≤dp→dp≤61→0≤n→n≤1000→ ∃ v n' d',Ev (fun k=>impl_measure.f k t.f0 t.f1 t.f2 t.f3 dp n d) (v,n',d')∧MeasP (cnt t) (dep t) (rightB t) n dp v n':=by
 intro t hs
 induction hs with
 |mk a b c l hl ha hb h ih=>
  intro dp n d h1 h2 h3 h4
  have hw:wrap64 (n + 1)=n + 1:=wrap_id (by omega) (by omega)
  have no: ∀ y:Int,¬ (n + (1 + cntL l:Nat)≤1000∧((1 + depL l:Nat):Int) + dp≤61∧(selfB a b c l && rightL l)=true)→MeasP (1 + cntL l) (1 + depL l) (selfB a b c l && rightL l) n dp false y:=
   fun y hn=>⟨⟨fun e=>absurd e (by decide),fun e=>absurd e hn⟩,fun e=>absurd e (by decide)⟩
  simp only [cnt,dep,rightB]
  by_cases c1:n + 1 > 1000
  ·exact ⟨false,n + 1,mx d dp,Ev.succ (Ev.pure _) (fun k=>by simp only [impl_measure.f,hw];rw [if_pos c1]),no _ (fun e=>by omega)⟩
  ·by_cases c2:dp > 60
   ·exact ⟨false,n + 1,mx d dp,Ev.succ (Ev.pure _) (fun k=>by simp only [impl_measure.f,hw];rw [if_neg c1,if_pos c2]),no _ (fun e=>by omega)⟩
   ·have hd:wrap64 (dp + 1)=dp + 1:=wrap_id (by omega) (by omega)
    have st: ∀ {v n' d'},Ev (fun k=>if nameB a=true then (if c=true then (if (l.length:Int)=0 then some (decide ((b.size:Int)≤200),n + 1,mx d dp) else some (false,n + 1,mx d dp)) else if b.toList= [] then (impl_measure.l0 k 0 dp (n + 1) (mx d dp) l) else some (false,n + 1,mx d dp)) else some (false,n + 1,mx d dp)) (v,n',d')→Ev (fun k=>impl_measure.f k a b c l dp n d) (v,n',d'):=by
     intro v n' d' g
     refine Ev.succ (Ev.bind (iName a ha) (G:=fun k y=>if y=true then (if c=true then (if (l.length:Int)=0 then some (decide ((b.size:Int)≤200),n + 1,mx d dp) else some (false,n + 1,mx d dp)) else if b.toList= [] then (impl_measure.l0 k 0 dp (n + 1) (mx d dp) l) else some (false,n + 1,mx d dp)) else some (false,n + 1,mx d dp)) g) (fun k=> ?_)
     simp only [impl_measure.f,hw]
     rw [if_neg c1,if_neg c2]
    cases hn:nameB a with
    |false=>exact ⟨false,n + 1,mx d dp,st (Ev.congr (Ev.pure _) (fun k=>by rw [hn];rfl)),no _ (fun e=>by simp [selfB,hn] at e)⟩
    |true=>
     cases c with
     |true=>
      by_cases c3:(l.length:Int)=0
      ·have e0:l= []:=List.eq_nil_of_length_eq_zero (by omega)
       subst e0
       refine ⟨decide ((b.size:Int)≤200),n + 1,mx d dp,st (Ev.congr (Ev.pure _) (fun k=>by rw [hn];rfl)), ?_,fun _=>by simp [cntL]⟩
       simp only [selfB,hn,cntL,depL,rightL]
       simp
       omega
      ·exact ⟨false,n + 1,mx d dp,st (Ev.congr (Ev.pure _) (fun k=>by rw [hn,if_pos rfl,if_pos rfl,if_neg c3])),no _ (fun e=>by
        have:l≠ []:=fun e0=>c3 (by rw [e0];rfl)
        simp [selfB,hn,this] at e)⟩
     |false=>
      by_cases c3:b.toList= []
      ·obtain ⟨v,n',d',e,p⟩:=meas_loop dp ⟨h1,by omega⟩ l hl (fun t ht y z y1 y2=>by rw [hd];exact ih t ht (dp + 1) y z (by omega) (by omega) y1 y2) l.length 0 (n + 1) (mx d dp) rfl (by omega) (by omega) (by omega)
       refine ⟨v,n',d',st (Ev.congr e (fun k=>by rw [hn,if_pos rfl,if_neg Bool.false_ne_true,if_pos c3];rfl)), ?_⟩
       rw [List.drop_zero] at p
       obtain ⟨p1,p2⟩:=p
       have es:selfB a b false l=true:=by simp [selfB,hn,c3]
       rw [es,Bool.true_and]
       refine ⟨⟨fun e=> ?_,fun e=> ?_⟩,fun e=> ?_⟩
       ·obtain ⟨a1,a2,a3⟩:=p1.mp e
        exact ⟨by omega,by omega,a3⟩
       ·obtain ⟨a1,a2,a3⟩:=e
        exact p1.mpr ⟨by omega,by omega,a3⟩
       ·have:=p2 e
        omega
      ·exact ⟨false,n + 1,mx d dp,st (Ev.congr (Ev.pure _) (fun k=>by rw [hn,if_pos rfl,if_neg Bool.false_ne_true,if_neg c3])),no _ (fun e=>by simp [selfB,hn,c3] at e)⟩
theorem iTreeOK (t:S26) (hs:Small t):Ev (fun k=>impl_TreeOK.f k t.f0 t.f1 t.f2 t.f3) (okB t):=by
 obtain ⟨v,n',d',e,p, -⟩:=meas_ev t hs 1 0 0 (by omega) (by omega) (by omega) (by omega)
 have ev:v=okB t:=by
  rw [Bool.eq_iff_iff,p]
  simp only [okB,Bool.and_eq_true,decide_eq_true_eq]
  constructor
  ·rintro ⟨a1,a2,a3⟩;exact ⟨by omega,by omega,a3⟩
  ·rintro ⟨a1,a2,a3⟩;exact ⟨by omega,by omega,a3⟩
 rw [← ev]
 exact Ev.congr (Ev.bind e (G:=fun k y=>some y.1) (Ev.pure _)) (fun k=>rfl)
theorem eta26 (t:S26):(⟨t.f0,t.f1,t.f2,t.f3⟩:S26)=t:=by cases t;rfl
theorem sCopy_loop (a b:ByteArray) (c:Bool) (l:List S26) (hl:l.length≤4000) (ih: ∀ t∈l,Ev (fun k=>spec_l01Copy.f k t.f0 t.f1 t.f2 t.f3) (t.f0,t.f1,t.f2,t.f3)):
  ∀ (m i:Nat),l.length - i=m→i≤l.length→Ev (fun k=>spec_l01Copy.l0 k (l.take i) (i:Int) a b c l) (a,b,c,l):=by
 intro m
 induction m with
 |zero=>
  intro i hm hi
  have e:i=l.length:=by omega
  subst e
  exact Ev.succ (Ev.pure _) (fun k=>by simp only [spec_l01Copy.l0];rw [if_neg (by omega),List.take_length])
 |succ m IH=>
  intro i hm hi
  have hlt:i < l.length:=by omega
  have hw:wrap64 ((i:Int) + 1)=((i + 1:Nat):Int):=by rw [wrap_id (by omega) (by omega)];omega
  have ht:l.take i ++ [l[i]]=l.take (i + 1):=by rw [List.take_append_getElem hlt]
  refine Ev.succ (Ev.bind (G:=fun k (y:ByteArray × ByteArray × Bool × List S26)=>if (l.take i).length < 2199023255552 then (spec_l01Copy.l0 k (l.take i ++ [(⟨y.1,y.2.1,y.2.2.1,y.2.2.2⟩:S26)]) ((i + 1:Nat):Int) a b c l) else none) (ih l[i] (List.getElem_mem hlt)) ?_) (fun k=> ?_)
  ·refine Ev.congr (IH (i + 1) (by omega) (by omega)) (fun k=> ?_)
   rw [if_pos (by rw [List.length_take];omega),← ht]
   simp only [eta26]
  ·simp only [spec_l01Copy.l0,rdT l i hlt,hw]
   rw [if_pos (by omega),if_pos (by omega)]
theorem sCopy: ∀ (t:S26),Small t→Ev (fun k=>spec_l01Copy.f k t.f0 t.f1 t.f2 t.f3) (t.f0,t.f1,t.f2,t.f3):=by
 intro t hs
 induction hs with
 |mk a b c l hl ha hb h ih=>exact Ev.succ (sCopy_loop a b c l hl ih l.length 0 rfl (by omega)) (fun k=>rfl)
theorem iCopy_loop (a b:ByteArray) (c:Bool) (l:List S26) (hl:l.length≤4000) (ih: ∀ t∈l,Ev (fun k=>impl_copyTree.f k t.f0 t.f1 t.f2 t.f3) (t.f0,t.f1,t.f2,t.f3)):
  ∀ (m i:Nat),l.length - i=m→i≤l.length→Ev (fun k=>impl_copyTree.l0 k l (l.length:Int) (i:Int) a b c (l.take i)) (a,b,c,l):=by
 intro m
 induction m with
 |zero=>
  intro i hm hi
  have e:i=l.length:=by omega
  subst e
  exact Ev.succ (Ev.pure _) (fun k=>by simp only [impl_copyTree.l0];rw [if_neg (by omega),List.take_length])
 |succ m IH=>
  intro i hm hi
  have hlt:i < l.length:=by omega
  have hw:wrap64 ((i:Int) + 1)=((i + 1:Nat):Int):=by rw [wrap_id (by omega) (by omega)];omega
  have ht:l.take i ++ [l[i]]=l.take (i + 1):=by rw [List.take_append_getElem hlt]
  refine Ev.succ (Ev.bind (G:=fun k (y:ByteArray × ByteArray × Bool × List S26)=>if (l.take i).length < 2199023255552 then (impl_copyTree.l0 k l (l.length:Int) ((i + 1:Nat):Int) a b c (l.take i ++ [(⟨y.1,y.2.1,y.2.2.1,y.2.2.2⟩:S26)])) else none) (ih l[i] (List.getElem_mem hlt)) ?_) (fun k=> ?_)
  ·refine Ev.congr (IH (i + 1) (by omega) (by omega)) (fun k=> ?_)
   rw [if_pos (by rw [List.length_take];omega),← ht]
   simp only [eta26]
  ·simp only [impl_copyTree.l0,rdT l i hlt,hw]
   rw [if_pos (by omega),if_pos (by omega),if_pos (by omega)]
theorem iCopy: ∀ (t:S26),Small t→Ev (fun k=>impl_copyTree.f k t.f0 t.f1 t.f2 t.f3) (t.f0,t.f1,t.f2,t.f3):=by
 intro t hs
 induction hs with
 |mk a b c l hl ha hb h ih=>exact Ev.succ (iCopy_loop a b c l hl ih l.length 0 rfl (by omega)) (fun k=>rfl)
theorem same_loop (a b:ByteArray) (c:Bool) (l:List S26) (a' b':ByteArray) (c':Bool) (hl:l.length≤4000) (ih: ∀ t∈l,Ev (fun k=>laws_sameTree.f k t.f0 t.f1 t.f2 t.f3 t.f0 t.f1 t.f2 t.f3) true):
  ∀ (m i:Nat),l.length - i=m→i≤l.length→Ev (fun k=>laws_sameTree.l0 k (i:Int) a b c l a' b' c' l) true:=by
 intro m
 induction m with
 |zero=>
  intro i hm hi
  exact Ev.succ (Ev.pure _) (fun k=>by simp only [laws_sameTree.l0];rw [if_neg (by omega)])
 |succ m IH=>
  intro i hm hi
  have hlt:i < l.length:=by omega
  have hw:wrap64 ((i:Int) + 1)=((i + 1:Nat):Int):=by rw [wrap_id (by omega) (by omega)];omega
  refine Ev.succ (Ev.bind (G:=fun k y=>if y=true then (laws_sameTree.l0 k ((i + 1:Nat):Int) a b c l a' b' c' l) else some false) (ih l[i] (List.getElem_mem hlt)) (Ev.congr (IH (i + 1) (by omega) (by omega)) (fun k=>rfl))) (fun k=> ?_)
  simp only [laws_sameTree.l0,rdT l i hlt,hw]
  rw [if_pos (by omega),if_pos (by omega),if_pos (by omega)]
theorem sameTree_refl: ∀ (t:S26),Small t→Ev (fun k=>laws_sameTree.f k t.f0 t.f1 t.f2 t.f3 t.f0 t.f1 t.f2 t.f3) true:=by
 intro t hs
 induction hs with
 |mk a b c l hl ha hb h ih=>
  have g:Ev (fun k=>laws_sameTree.j0 k false a b c l a b c l) true:=Ev.succ (same_loop a b c l a b c hl ih l.length 0 rfl (by omega)) (fun k=>rfl)
  refine Ev.succ g (fun k=> ?_)
  simp only [laws_sameTree.f]
  simp
def subT:List Int→S26→Option S26
 | [],t=>some t
 |p :: ps,t=>if h:0≤p∧p < (t.f3.length:Int) then subT ps (t.f3[p.toNat]'(by omega)) else none
def putT (u:S26):List Int→S26→S26
 | [],_=>u
 |p :: ps,t=>⟨t.f0,t.f1,t.f2,t.f3.set p.toNat (putT u ps (rd_T26 t.f3 p))⟩
theorem Small.kid {t:S26} (hs:Small t) {p:Int} (h:0≤p∧p < (t.f3.length:Int)):Small (rd_T26 t.f3 p):=by
 cases hs with
 |mk a b c l hl ha hb g=>
  have e:rd_T26 l p=l[p.toNat]'(by simp at h;omega):=by
   have:=rdT l p.toNat (by simp at h;omega)
   rwa [Int.toNat_of_nonneg h.1] at this
  show Small (rd_T26 l p)
  rw [e]
  exact g _ (List.getElem_mem _)
theorem subT_cons (p:Int) (ps:List Int) (t:S26):subT (p :: ps) t=if 0≤p∧p < (t.f3.length:Int) then subT ps (rd_T26 t.f3 p) else none:=by
 simp only [subT]
 split
 ·rename_i h
  have:=rdT t.f3 p.toNat (by omega)
  rw [Int.toNat_of_nonneg h.1] at this
  rw [this]
 ·rfl
theorem Small.len {t:S26} (hs:Small t):t.f3.length≤4000:=by cases hs;assumption
theorem at_loop (path:List Int) (hp:path.length≤4000): ∀ (m i:Nat) (t:S26),path.length - i=m→i≤path.length→Small t→
  ∃ r:S26 × Bool,Ev (fun k=>impl_at.l0 k path (path.length:Int) (i:Int) t.f0 t.f1 t.f2 t.f3) (r.1.f0,r.1.f1,r.1.f2,r.1.f3,r.2)∧(subT (path.drop i) t=if r.2=true then some r.1 else none):=by
 intro m
 induction m with
 |zero=>
  intro i t hm hi hs
  have e:i=path.length:=by omega
  subst e
  refine ⟨(t,true),Ev.succ (Ev.pure _) (fun k=>by simp only [impl_at.l0];rw [if_neg (by omega)]), ?_⟩
  rw [List.drop_length]
  rfl
 |succ m IH=>
  intro i t hm hi hs
  have hlt:i < path.length:=by omega
  have hw:wrap64 ((i:Int) + 1)=((i + 1:Nat):Int):=by rw [wrap_id (by omega) (by omega)];omega
  have hdrop:path.drop i=path[i] :: path.drop (i + 1):=List.drop_eq_getElem_cons hlt
  have hrd:rd path (i:Int)=path[i]:=by simp [rd,List.getD,hlt]
  rw [hdrop,subT_cons]
  by_cases h1:path[i] < 0
  ·refine ⟨(z26,false),Ev.succ (Ev.pure _) (fun k=> ?_), ?_⟩
   ·simp only [impl_at.l0,hrd]
    rw [if_pos (by omega),if_pos (by omega),if_pos (by omega),if_pos h1]
    rfl
   ·rw [if_neg (by omega)];rfl
  ·by_cases h2:path[i] ≥ (t.f3.length:Int)
   ·refine ⟨(z26,false),Ev.succ (Ev.pure _) (fun k=> ?_), ?_⟩
    ·simp only [impl_at.l0,hrd]
     rw [if_pos (by omega),if_pos (by omega),if_pos (by omega),if_neg h1,if_pos h2]
     rfl
    ·rw [if_neg (by omega)];rfl
   ·have hb:0≤path[i]∧path[i] < (t.f3.length:Int):=⟨by omega,by omega⟩
    obtain ⟨r,e,q⟩:=IH (i + 1) (rd_T26 t.f3 path[i]) (by omega) (by omega) (hs.kid hb)
    refine ⟨r,Ev.succ e (fun k=> ?_), ?_⟩
    ·simp only [impl_at.l0,hrd,hw]
     rw [if_pos (by omega),if_pos (by omega),if_pos (by omega),if_neg h1,if_neg h2,if_pos hb.1,if_pos hb.2]
    ·rw [if_pos hb];exact q
theorem leads_loop (path:List Int) (hp:path.length≤4000): ∀ (m i:Nat) (t:S26),path.length - i=m→i≤path.length→Small t→
  Ev (fun k=>spec_l01Leads.l0 k path (i:Int) t.f0 t.f1 t.f2 t.f3) (subT (path.drop i) t).isSome:=by
 intro m
 induction m with
 |zero=>
  intro i t hm hi hs
  have e:i=path.length:=by omega
  subst e
  rw [List.drop_length]
  exact Ev.succ (Ev.pure _) (fun k=>by simp only [spec_l01Leads.l0];rw [if_neg (by omega)];rfl)
 |succ m IH=>
  intro i t hm hi hs
  have hlt:i < path.length:=by omega
  have hw:wrap64 ((i:Int) + 1)=((i + 1:Nat):Int):=by rw [wrap_id (by omega) (by omega)];omega
  have hdrop:path.drop i=path[i] :: path.drop (i + 1):=List.drop_eq_getElem_cons hlt
  have hrd:rd path (i:Int)=path[i]:=by simp [rd,List.getD,hlt]
  have hlen:=hs.len
  have hk:wrap64 ((t.f3.length:Int) - 1)=(t.f3.length:Int) - 1:=wrap_id (by omega) (by omega)
  rw [hdrop,subT_cons]
  by_cases hb:0≤path[i]∧path[i] < (t.f3.length:Int)
  ·rw [if_pos hb]
   refine Ev.succ (IH (i + 1) (rd_T26 t.f3 path[i]) (by omega) (by omega) (hs.kid hb)) (fun k=> ?_)
   have e:spec_l01Between.f path[i] 0 ((t.f3.length:Int) - 1)=some true:=by
    unfold spec_l01Between.f
    rw [if_pos hb.1,decide_eq_true (by omega)]
   simp only [spec_l01Leads.l0,hrd,hw,hk,e]
   rw [if_pos (by omega),if_pos (by omega)]
   simp only [Option.bind_some,↓reduceIte]
   rw [if_pos hb.1,if_pos hb.2]
  ·rw [if_neg hb]
   refine Ev.succ (Ev.pure false) (fun k=> ?_)
   have e:spec_l01Between.f path[i] 0 ((t.f3.length:Int) - 1)=some false:=by
    unfold spec_l01Between.f
    by_cases h0:path[i] ≥ 0
    ·rw [if_pos h0,decide_eq_false (by omega)]
    ·rw [if_neg h0]
   simp only [spec_l01Leads.l0,hrd,hw,hk,e]
   rw [if_pos (by omega),if_pos (by omega)]
   rfl
theorem putT_cons (u:S26) (p:Int) (ps:List Int) (t:S26):putT u (p :: ps) t=⟨t.f0,t.f1,t.f2,t.f3.set p.toNat (putT u ps (rd_T26 t.f3 p))⟩:=rfl
theorem iPut (u:S26) (hu:Small u): ∀ (path:List Int) (t:S26),Small t→(subT path t).isSome=true→
  Ev (fun k=>impl_put.f k t.f0 t.f1 t.f2 t.f3 path u.f0 u.f1 u.f2 u.f3) ((putT u path t).f0,(putT u path t).f1,(putT u path t).f2,(putT u path t).f3):=by
 intro path
 induction path with
 |nil=>
  intro t hs _
  refine Ev.succ (Ev.bind (iCopy u hu) (Ev.pure _)) (fun k=> ?_)
  simp only [impl_put.f]
  rw [if_pos (show (([]:List Int).length:Int)=0 from rfl)]
 |cons p ps ih=>
  intro t hs h
  rw [subT_cons] at h
  by_cases hb:0≤p∧p < (t.f3.length:Int)
  ·rw [if_pos hb] at h
   have g:=ih (rd_T26 t.f3 p) (hs.kid hb) h
   refine Ev.succ (Ev.bind (iCopy t hs) (G:=fun k (y:ByteArray × ByteArray × Bool × List S26)=>(impl_put.f k ((rd_T26 t.f3 p).f0) ((rd_T26 t.f3 p).f1) ((rd_T26 t.f3 p).f2) ((rd_T26 t.f3 p).f3) ps u.f0 u.f1 u.f2 u.f3).bind fun z=>(if p < (y.2.2.2.length:Int) then (some (y.1,y.2.1,y.2.2.1,(y.2.2.2.set p.toNat (⟨z.1,z.2.1,z.2.2.1,z.2.2.2⟩:S26)))) else none)) (Ev.bind g (Ev.congr (Ev.pure _) (fun k=> ?_)))) (fun k=> ?_)
   ·rw [if_pos hb.2,putT_cons]
    simp only [eta26]
   ·have hl:(((p :: ps).length:Nat):Int)=(ps.length:Int) + 1:=by simp
    have hr:rd (p :: ps) 0=p:=rfl
    simp only [impl_put.f,hl,hr,List.drop_one,List.tail_cons]
    rw [if_neg (by omega)]
    congr 1
    funext y
    rw [if_pos (by omega),if_pos hb.1,if_pos hb.2,if_pos (by omega)]
  ·rw [if_neg hb] at h
   exact absurd h (by simp)
theorem sPut (u:S26): ∀ (path:List Int) (t:S26),Small t→(subT path t).isSome=true→
  Ev (fun k=>spec_l01Put.f k t.f0 t.f1 t.f2 t.f3 path u.f0 u.f1 u.f2 u.f3) ((putT u path t).f0,(putT u path t).f1,(putT u path t).f2,(putT u path t).f3):=by
 intro path
 induction path with
 |nil=>
  intro t hs _
  refine Ev.succ (Ev.pure _) (fun k=> ?_)
  simp only [spec_l01Put.f]
  rw [if_pos (show (([]:List Int).length:Int)=0 from rfl)]
  rfl
 |cons p ps ih=>
  intro t hs h
  rw [subT_cons] at h
  by_cases hb:0≤p∧p < (t.f3.length:Int)
  ·rw [if_pos hb] at h
   have g:=ih (rd_T26 t.f3 p) (hs.kid hb) h
   have hlen:=hs.len
   refine Ev.succ (Ev.bind g (G:=fun k (z:ByteArray × ByteArray × Bool × List S26)=>some (t.f0,t.f1,t.f2,t.f3.set p.toNat (⟨z.1,z.2.1,z.2.2.1,z.2.2.2⟩:S26))) (Ev.congr (Ev.pure _) (fun k=> ?_))) (fun k=> ?_)
   ·rw [putT_cons]
    simp only [eta26]
   ·have hl:(((p :: ps).length:Nat):Int)=(ps.length:Int) + 1:=by simp
    have hr:rd (p :: ps) 0=p:=rfl
    simp only [spec_l01Put.f,hl,hr,List.drop_one,List.tail_cons,Option.bind_some,List.nil_append,List.length_nil]
    rw [if_neg (by omega),if_pos (by omega),if_pos (by omega),if_pos hb.1,if_pos hb.2,if_pos (by omega)]
  ·rw [if_neg hb] at h
   exact absurd h (by simp)
theorem kid_mem {l:List S26} {p:Int} (h:0≤p∧p < (l.length:Int)):rd_T26 l p∈l:=by
 have:=rdT l p.toNat (by omega)
 rw [Int.toNat_of_nonneg h.1] at this
 rw [this]
 exact List.getElem_mem _
theorem kid_le: ∀ (l:List S26) (s:S26),s∈l→cnt s≤cntL l∧dep s≤depL l∧(rightL l=true→rightB s=true):=by
 intro l
 induction l with
 |nil=>intro s h;cases h
 |cons a l ih=>
  intro s h
  simp only [cntL,depL,rightL,Bool.and_eq_true]
  rcases List.mem_cons.mp h with e|h
  ·subst e;exact ⟨by omega,by omega,fun q=>q.1⟩
  ·obtain ⟨q1,q2,q3⟩:=ih s h
   exact ⟨by omega,by omega,fun q=>q3 q.2⟩
theorem ok_kid {t:S26} {p:Int} (h:0≤p∧p < (t.f3.length:Int)) (ho:okB t=true):okB (rd_T26 t.f3 p)=true:=by
 obtain ⟨q1,q2,q3⟩:=kid_le t.f3 _ (kid_mem h)
 cases t with
 |mk a b c l=>
  simp only [okB,cnt,dep,rightB,Bool.and_eq_true,decide_eq_true_eq] at ho ⊢
  obtain ⟨o1,o2,o3,o4⟩:=ho
  have q1':cnt (rd_T26 l p)≤cntL l:=q1
  have q2':dep (rd_T26 l p)≤depL l:=q2
  replace o1:1 + cntL l≤1000:=of_decide_eq_true o1
  replace o2:1 + depL l≤60:=of_decide_eq_true o2
  exact ⟨by omega,by omega,q3 o4⟩
theorem ok_sub: ∀ (path:List Int) (t s:S26),okB t=true→subT path t=some s→okB s=true:=by
 intro path
 induction path with
 |nil=>intro t s ho h;simp only [subT,Option.some.injEq] at h;rw [← h];exact ho
 |cons p ps ih=>
  intro t s ho h
  rw [subT_cons] at h
  split at h
  ·rename_i hb;exact ih _ _ (ok_kid hb ho) h
  ·cases h
theorem small_sub: ∀ (path:List Int) (t s:S26),Small t→subT path t=some s→Small s:=by
 intro path
 induction path with
 |nil=>intro t s ho h;simp only [subT,Option.some.injEq] at h;rw [← h];exact ho
 |cons p ps ih=>
  intro t s ho h
  rw [subT_cons] at h
  split at h
  ·rename_i hb;exact ih _ _ (ho.kid hb) h
  ·cases h
theorem small_put (u:S26) (hu:Small u): ∀ (path:List Int) (t:S26),Small t→(subT path t).isSome=true→Small (putT u path t):=by
 intro path
 induction path with
 |nil=>intro t _ _;exact hu
 |cons p ps ih=>
  intro t hs h
  rw [subT_cons] at h
  split at h
  ·rename_i hb
   have g:=ih _ (hs.kid hb) h
   rw [putT_cons]
   cases hs with
   |mk a b c l hl ha hb2 hk=>
    refine Small.mk _ _ _ _ (by rw [List.length_set];exact hl) ha hb2 (fun x hx=> ?_)
    rcases List.mem_or_eq_of_mem_set hx with e|e
    ·exact hk x e
    ·rw [e];exact g
  ·cases h
theorem rd_set_same (l:List S26) (p:Int) (x:S26) (h:0≤p∧p < (l.length:Int)):rd_T26 (l.set p.toNat x) p=x:=by
 have:=rdT (l.set p.toNat x) p.toNat (by rw [List.length_set];omega)
 rw [Int.toNat_of_nonneg h.1] at this
 rw [this,List.getElem_set_self]
theorem rd_set_ne (l:List S26) (p q:Int) (x:S26) (hp:0≤p) (hq:0≤q) (h:p≠q):rd_T26 (l.set p.toNat x) q=rd_T26 l q:=by
 simp only [rd_T26,List.getD]
 rw [List.getElem?_set_ne (by omega)]
theorem sub_put (u:S26): ∀ (path:List Int) (t:S26),(subT path t).isSome=true→subT path (putT u path t)=some u:=by
 intro path
 induction path with
 |nil=>intro t _;rfl
 |cons p ps ih=>
  intro t h
  rw [subT_cons] at h
  split at h
  ·rename_i hb
   rw [putT_cons,subT_cons]
   rw [if_pos (by simpa using hb)]
   rw [rd_set_same _ _ _ hb]
   exact ih _ h
  ·cases h
theorem put_back (u:S26): ∀ (path:List Int) (t s:S26),subT path t=some s→putT s path (putT u path t)=t:=by
 intro path
 induction path with
 |nil=>intro t s h;simp only [subT,Option.some.injEq] at h;exact h.symm
 |cons p ps ih=>
  intro t s h
  rw [subT_cons] at h
  split at h
  ·rename_i hb
   rw [putT_cons u,putT_cons s]
   simp only
   rw [rd_set_same _ _ _ hb,ih _ _ h,List.set_set]
   have e:t.f3.set p.toNat (rd_T26 t.f3 p)=t.f3:=by
    have:=rdT t.f3 p.toNat (by omega)
    rw [Int.toNat_of_nonneg hb.1] at this
    rw [this,List.set_getElem_self]
   rw [e,eta26]
  ·cases h
def tup (t:S26) (e:Int):ByteArray × ByteArray × Bool × List S26 × Int:=(t.f0,t.f1,t.f2,t.f3,e)
def tp (t:S26) (path:List Int) (u:S26):S26 × Int:=
 if okB t && okB u then (if (subT path t).isSome then (if okB (putT u path t) then (putT u path t,0) else (z26,3)) else (z26,4)) else (z26,1)
theorem at_ev (path:List Int) (hp:path.length≤4000) (t:S26) (hs:Small t): ∃ r:S26 × Bool,Ev (fun k=>impl_at.f k t.f0 t.f1 t.f2 t.f3 path) (r.1.f0,r.1.f1,r.1.f2,r.1.f3,r.2)∧(subT path t=if r.2=true then some r.1 else none):=by
 obtain ⟨r,e,q⟩:=at_loop path hp path.length 0 t rfl (by omega) hs
 exact ⟨r,Ev.congr e (fun k=>rfl),q⟩
theorem iTreePut (t u:S26) (hs:Small t) (hu:Small u) (path:List Int) (hp:path.length≤4000):
  Ev (fun k=>impl_TreePut.f k t.f0 t.f1 t.f2 t.f3 path u.f0 u.f1 u.f2 u.f3) (tup (tp t path u).1 (tp t path u).2):=by
 have no:Ev (fun k=>impl_TreePut.j0 k path true t.f0 t.f1 t.f2 t.f3 u.f0 u.f1 u.f2 u.f3) (tup z26 1):=Ev.succ (Ev.pure _) (fun k=>rfl)
 refine Ev.congr (Ev.bind (iTreeOK t hs) (G:=fun k y=>if y=true then ((impl_TreeOK.f k u.f0 u.f1 u.f2 u.f3).bind fun t454=>(impl_TreePut.j0 k path (!t454) t.f0 t.f1 t.f2 t.f3 u.f0 u.f1 u.f2 u.f3)) else (impl_TreePut.j0 k path true t.f0 t.f1 t.f2 t.f3 u.f0 u.f1 u.f2 u.f3)) ?_) (fun k=>rfl)
 unfold tp
 cases ht:okB t with
 |false=>exact no
 |true=>
  refine Ev.congr (Ev.bind (iTreeOK u hu) (G:=fun k y=>impl_TreePut.j0 k path (!y) t.f0 t.f1 t.f2 t.f3 u.f0 u.f1 u.f2 u.f3) ?_) (fun k=>by rw [if_pos rfl])
  cases hu':okB u with
  |false=>exact no
  |true=>
   obtain ⟨⟨s,v⟩,e,q⟩:=at_ev path hp t hs
   cases v with
   |false=>
    have q':subT path t=none:=q
    rw [q']
    exact Ev.succ (Ev.bind e (Ev.congr (Ev.pure _) (fun k=>by rw [if_neg Bool.false_ne_true];rfl))) (fun k=>rfl)
   |true=>
    have q':subT path t=some s:=q
    have qs:(subT path t).isSome=true:=by rw [q'];rfl
    have hw:=small_put u hu path t hs qs
    rw [q']
    refine Ev.succ (Ev.bind e (Ev.congr (Ev.bind (iPut u hu path t hs qs) (Ev.bind (iTreeOK _ hw) ?_)) (fun k=>by rw [if_pos rfl]))) (fun k=>rfl)
    cases okB (putT u path t) with
    |false=>exact Ev.congr (Ev.pure _) (fun k=>by rw [if_neg Bool.false_ne_true];rfl)
    |true=>exact Ev.congr (Ev.pure _) (fun k=>by rw [if_pos rfl];rfl)
theorem leads_ev (path:List Int) (hp:path.length≤4000) (t:S26) (hs:Small t):Ev (fun k=>spec_l01Leads.f k t.f0 t.f1 t.f2 t.f3 path) (subT path t).isSome:=
 Ev.congr (leads_loop path hp path.length 0 t rfl (by omega) hs) (fun k=>rfl)
theorem sTreePut (t u:S26) (hs:Small t) (hu:Small u) (path:List Int) (hp:path.length≤4000):
  Ev (fun k=>spec_TreePut.f k t.f0 t.f1 t.f2 t.f3 path u.f0 u.f1 u.f2 u.f3) (tup (tp t path u).1 (tp t path u).2):=by
 have no:Ev (fun k=>spec_TreePut.j0 k path true t.f0 t.f1 t.f2 t.f3 u.f0 u.f1 u.f2 u.f3) (tup z26 1):=Ev.succ (Ev.pure _) (fun k=>rfl)
 refine Ev.congr (Ev.bind (sTreeOK t hs) (G:=fun k y=>if y=true then ((spec_TreeOK.f k u.f0 u.f1 u.f2 u.f3).bind fun t454=>(spec_TreePut.j0 k path (!t454) t.f0 t.f1 t.f2 t.f3 u.f0 u.f1 u.f2 u.f3)) else (spec_TreePut.j0 k path true t.f0 t.f1 t.f2 t.f3 u.f0 u.f1 u.f2 u.f3)) ?_) (fun k=>rfl)
 unfold tp
 cases ht:okB t with
 |false=>exact no
 |true=>
  refine Ev.congr (Ev.bind (sTreeOK u hu) (G:=fun k y=>spec_TreePut.j0 k path (!y) t.f0 t.f1 t.f2 t.f3 u.f0 u.f1 u.f2 u.f3) ?_) (fun k=>by rw [if_pos rfl])
  cases hu':okB u with
  |false=>exact no
  |true=>
   have e:=leads_ev path hp t hs
   cases qs:(subT path t).isSome with
   |false=>
    rw [qs] at e
    exact Ev.succ (Ev.bind e (Ev.congr (Ev.pure _) (fun k=>by rw [if_neg Bool.false_ne_true];rfl))) (fun k=>rfl)
   |true=>
    rw [qs] at e
    have hw:=small_put u hu path t hs qs
    refine Ev.succ (Ev.bind e (Ev.congr (Ev.bind (sPut u path t hs qs) (Ev.bind (sTreeOK _ hw) ?_)) (fun k=>by rw [if_pos rfl]))) (fun k=>rfl)
    cases okB (putT u path t) with
    |false=>exact Ev.congr (Ev.pure _) (fun k=>by rw [if_neg Bool.false_ne_true];rfl)
    |true=>exact Ev.congr (Ev.bind (sCopy _ hw) (Ev.pure _)) (fun k=>by rw [if_pos rfl])
theorem iTreeAt (t:S26) (hs:Small t) (ho:okB t=true) (path:List Int) (hp:path.length≤4000) (s:S26) (h:subT path t=some s):
  Ev (fun k=>impl_TreeAt.f k t.f0 t.f1 t.f2 t.f3 path) (tup s 0):=by
 have e0:=iTreeOK t hs
 rw [ho] at e0
 obtain ⟨⟨s',v⟩,e,q⟩:=at_ev path hp t hs
 rw [h] at q
 cases v with
 |false=>exact absurd q (by simp)
 |true=>
  have es:s=s':=Option.some.inj q
  subst es
  have e2:Ev (fun k=>(impl_copyTree.f k s.f0 s.f1 s.f2 s.f3).bind fun bt487=>(some (bt487.1,bt487.2.1,bt487.2.2.1,bt487.2.2.2,(0:Int)))) (tup s 0):=Ev.congr (Ev.bind (iCopy s (small_sub path t s hs h)) (G:=fun k (y:ByteArray × ByteArray × Bool × List S26)=>some (y.1,y.2.1,y.2.2.1,y.2.2.2,(0:Int))) (Ev.pure _)) (fun k=>rfl)
  have e3:Ev (fun k=>(impl_at.f k t.f0 t.f1 t.f2 t.f3 path).bind fun bt479=>(if bt479.2.2.2.2=true then ((impl_copyTree.f k bt479.1 bt479.2.1 bt479.2.2.1 bt479.2.2.2.1).bind fun bt487=>(some (bt487.1,bt487.2.1,bt487.2.2.1,bt487.2.2.2,(0:Int)))) else (some ((⟨#[]⟩:ByteArray),(⟨#[]⟩:ByteArray),false,([]:List (S26)),4)))) (tup s 0):=
   Ev.bind (G:=fun k (bt479:ByteArray × ByteArray × Bool × List S26 × Bool)=>(if bt479.2.2.2.2=true then ((impl_copyTree.f k bt479.1 bt479.2.1 bt479.2.2.1 bt479.2.2.2.1).bind fun bt487=>(some (bt487.1,bt487.2.1,bt487.2.2.1,bt487.2.2.2,(0:Int)))) else (some ((⟨#[]⟩:ByteArray),(⟨#[]⟩:ByteArray),false,([]:List (S26)),4)))) e (Ev.congr e2 (fun k=>by rw [if_pos rfl]))
  refine Ev.congr (Ev.bind e0 (G:=fun k y=>if y=true then _ else some ((⟨#[]⟩:ByteArray),(⟨#[]⟩:ByteArray),false,([]:List (S26)),1)) (Ev.congr e3 (fun k=>by rw [if_pos rfl]))) (fun k=>rfl)
end Go.Proofs.Ytakpkmkjhndpjaa.Pure
end
