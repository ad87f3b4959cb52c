/- Texts of one claim laid one behind the other: plain functions that answer as the program's functions do, and the proofs that they do. No condition of its own. -/
import Derived.Test.YtakpkmkjhndpjaaZ2
section
namespace Go.Proofs.Ytakpkmkjhndpjaa.Q
open Go.RowKit Go.Proofs.YtakpkmkjhndpjaaW.PrintWords Go.Proofs.YtakpkmkjhndpjaaW.PrintLast Go.Proofs.YtakpkmkjhndpjaaW.PrintMore
attribute [local go_sem] max2_int min2_int max_two min_two max_three min_three max_four min_four
set_option linter.unusedVariables false
set_option linter.unusedSimpArgs false
def spec_TreePut.j0:Nat→List Int→Bool→ByteArray→ByteArray→Bool→List (S26)→ByteArray→ByteArray→Bool→List (S26)→Option (ByteArray × ByteArray × Bool × (List (S26)) × Int)
 |0,_,_,_,_,_,_,_,_,_,_=>none
 |k + 1,x1,x16,x382000,x382001,x382002,x382003,x383000,x383001,x383002,x383003=>if x16=true then (some ((⟨#[]⟩:ByteArray),(⟨#[]⟩:ByteArray),false,([]:List (S26)),1)) else ((spec_l01Leads.f k x382000 x382001 x382002 x382003 x1).bind fun t386=>(if t386=true then ((spec_l01Put.f k x382000 x382001 x382002 x382003 x1 x383000 x383001 x383002 x383003).bind fun bt387=>((spec_TreeOK.f k bt387.1 bt387.2.1 bt387.2.2.1 bt387.2.2.2).bind fun t394=>(if t394=true then ((spec_l01Copy.f k bt387.1 bt387.2.1 bt387.2.2.1 bt387.2.2.2).bind fun bt395=>(some (bt395.1,bt395.2.1,bt395.2.2.1,bt395.2.2.2,0))) else (some ((⟨#[]⟩:ByteArray),(⟨#[]⟩:ByteArray),false,([]:List (S26)),3))))) else (some ((⟨#[]⟩:ByteArray),(⟨#[]⟩:ByteArray),false,([]:List (S26)),4))))
def spec_TreePut.f (k:Nat) (a0_0:ByteArray) (a0_1:ByteArray) (a0_2:Bool) (l0_3:List (S26)) (l1:List Int) (a2_0:ByteArray) (a2_1:ByteArray) (a2_2:Bool) (l2_3:List (S26)):Option (ByteArray × ByteArray × Bool × (List (S26)) × Int):=(spec_TreeOK.f k a0_0 a0_1 a0_2 l0_3).bind fun t384=>(if t384=true then ((spec_TreeOK.f k a2_0 a2_1 a2_2 l2_3).bind fun t385=>(spec_TreePut.j0 k l1 (!t385) a0_0 a0_1 a0_2 l0_3 a2_0 a2_1 a2_2 l2_3)) else (spec_TreePut.j0 k l1 true a0_0 a0_1 a0_2 l0_3 a2_0 a2_1 a2_2 l2_3))
set_option maxHeartbeats 8000000 in
set_option maxRecDepth 100000 in
theorem spec_TreePut.calls (k:Nat) (a0_0:ByteArray) (a0_1:ByteArray) (a0_2:Bool) (A0_3:Option Addr) (c0_3:Nat) (l0_3:List (S26)) (A1:Option Addr) (c1:Nat) (l1:List Int) (a2_0:ByteArray) (a2_1:ByteArray) (a2_2:Bool) (A2_3:Option Addr) (c2_3:Nat) (l2_3:List (S26)) (r1:ByteArray) (r2:ByteArray) (r3:Bool) (r4:List (S26)) (r5:Int) (w:World) (hr0_3:Kd.C k26 w A0_3 l0_3.length l0_3) (hc0_3:l0_3.length≤c0_3) (hr1:Kd.C (Kd.int .i64) w A1 l1.length l1) (hc1:l1.length≤c1) (hr2_3:Kd.C k26 w A2_3 l2_3.length l2_3) (hc2_3:l2_3.length≤c2_3) (h:spec_TreePut.f k a0_0 a0_1 a0_2 l0_3 l1 a2_0 a2_1 a2_2 l2_3=some (r1,r2,r3,r4,r5)):
  Calls Try.prog 10 #[.agg #[.string a0_0, .string a0_1, .bool a0_2, .slice A0_3 l0_3.length c0_3], .slice A1 l1.length c1, .agg #[.string a2_0, .string a2_1, .bool a2_2, .slice A2_3 l2_3.length c2_3]] w fun e w'=> ∃ v3_:Value,e= .returned (.tuple #[.agg #[.string r1, .string r2, .bool r3,v3_], .int .i64 r5])∧Kd.R k26 26 w' w.heap.size (fun _=>True) v3_ r4∧Below w.heap.size w w':=by
 have hu26:=Try.underlying26
 have HR0_3:=A0_ hr0_3
 have HC0_3:=A0_ hc0_3
 clear hr0_3 hc0_3
 have HR1:=A0_ hr1
 have HC1:=A0_ hc1
 clear hr1 hc1
 have HR2_3:=A0_ hr2_3
 have HC2_3:=A0_ hc2_3
 clear hr2_3 hc2_3
 have HB:=A0_ (Below.refl w.heap.size w)
 have H:((spec_TreeOK.f k a0_0 a0_1 a0_2 l0_3).bind fun t384=>(if t384=true then ((spec_TreeOK.f k a2_0 a2_1 a2_2 l2_3).bind fun t385=>(spec_TreePut.j0 k l1 (!t385) a0_0 a0_1 a0_2 l0_3 a2_0 a2_1 a2_2 l2_3)) else (spec_TreePut.j0 k l1 true a0_0 a0_1 a0_2 l0_3 a2_0 a2_1 a2_2 l2_3)))=some (r1,r2,r3,r4,r5):=h
 clear h
 have HC4:=A0_ H
 clear H
 go_enter Try.func10,Try.ntmps10
 go_upto_region 1 with (first|((with_reducible refine gate_dst (N:=3) rfl ?_);refine box_event ?hg (N:=3) ?hd (cs:= #[.string a0_0, .string a0_1, .bool a0_2, .slice A0_3 l0_3.length c0_3]) (t:=26) ?hr ?_;(case hd=>rfl);(case hg=>rfl);(case hr=>first|(go_simp;done)|(go_simp;rfl));intro gb381 hg w5 hbox hb;have BK381:=A0_ (hbox);have GW381:=A0_ ((by rw [hg];exact (below_size HB.out):w.heap.size≤gb381));have GE381:=A0_ ((by rw [hg];exact (below_size HB.out):w.heap.size≤gb381));replace HB:=A0_ (below_step HB.out hb);clear hb hbox hg)|((with_reducible refine gate_dst (N:=5) rfl ?_);refine box_event ?hg (N:=5) ?hd (cs:= #[.string a2_0, .string a2_1, .bool a2_2, .slice A2_3 l2_3.length c2_3]) (t:=26) ?hr ?_;(case hd=>rfl);(case hg=>rfl);(case hr=>first|(go_simp;done)|(go_simp;rfl));intro gb382 hg w6 hbox hb;have BK382:=A0_ (hbox);have GW382:=A0_ ((by rw [hg];exact (below_size HB.out):w.heap.size≤gb382));have GE382:=A0_ ((by rw [hg];exact (below_size HB.out):w.heap.size≤gb382));replace HB:=A0_ (below_step HB.out hb);have NB381_382:=A0_ ((by rw [hg];exact Nat.ne_of_lt (blk_lt BK381.out):gb381≠gb382));have NB382_381:=A0_ ((by rw [hg];exact Nat.ne_of_gt (blk_lt BK381.out):gb382≠gb381));replace BK381:=A0_ (blk_below BK381.out hb);clear hb hbox hg)|((with_reducible refine gate_dst (N:=6) rfl ?_);refine box_event ?hg (N:=6) ?hd (cs:= #[.string (⟨#[]⟩:ByteArray), .string (⟨#[]⟩:ByteArray), .bool false, .slice none 0 0]) (t:=26) ?hr ?_;(case hd=>rfl);(case hg=>rfl);(case hr=>first|(go_simp;done)|(go_simp;rfl));intro gb383 hg w7 hbox hb;have BK383:=A0_ (hbox);have GW383:=A0_ ((by rw [hg];exact (below_size HB.out):w.heap.size≤gb383));have GE383:=A0_ ((by rw [hg];exact (below_size HB.out):w.heap.size≤gb383));replace HB:=A0_ (below_step HB.out hb);have NB381_383:=A0_ ((by rw [hg];exact Nat.ne_of_lt (blk_lt BK381.out):gb381≠gb383));have NB383_381:=A0_ ((by rw [hg];exact Nat.ne_of_gt (blk_lt BK381.out):gb383≠gb381));replace BK381:=A0_ (blk_below BK381.out hb);have NB382_383:=A0_ ((by rw [hg];exact Nat.ne_of_lt (blk_lt BK382.out):gb382≠gb383));have NB383_382:=A0_ ((by rw [hg];exact Nat.ne_of_gt (blk_lt BK382.out):gb383≠gb382));replace BK382:=A0_ (blk_below BK382.out hb);clear hb hbox hg))
 (try simp only [Act.put,List.setIfInBounds_toArray,List.set_cons_zero,List.set_cons_succ])
 go_cut [16] (fun v16 wc=> ∃ (kq:Nat) (x16_3:Bool),v16= .bool x16_3∧Aside0 (spec_TreePut.j0 kq l1 x16_3 a0_0 a0_1 a0_2 l0_3 a2_0 a2_1 a2_2 l2_3=some (r1,r2,r3,r4,r5))∧Aside0 (kq≤k)∧Aside0 (wc.heap[gb381]?= some (.cells #[.string a0_0, .string a0_1, .bool a0_2,(.slice A0_3 l0_3.length c0_3)] 26 (0,0)))∧Aside0 (wc.heap[gb382]?= some (.cells #[.string a2_0, .string a2_1, .bool a2_2,(.slice A2_3 l2_3.length c2_3)] 26 (0,0)))∧Aside0 (wc.heap[gb383]?= some (.cells #[.string (⟨#[]⟩:ByteArray), .string (⟨#[]⟩:ByteArray), .bool false,(.slice none 0 0)] 26 (0,0)))∧Aside0 (Below w.heap.size w wc))
 case first=>
  have H:=HC4.out
  clear HC4
  replace H:=Option.bind_eq_some_iff.mp H
  obtain ⟨t384,A80,H⟩:=H
  replace H:(if t384=true then ((spec_TreeOK.f k a2_0 a2_1 a2_2 l2_3).bind fun t385=>(spec_TreePut.j0 k l1 (!t385) a0_0 a0_1 a0_2 l0_3 a2_0 a2_1 a2_2 l2_3)) else (spec_TreePut.j0 k l1 true a0_0 a0_1 a0_2 l0_3 a2_0 a2_1 a2_2 l2_3))=some (r1,r2,r3,r4,r5):=H
  have A8:=A0_ A80
  clear A80
  by_cases c9:t384=true
  ·subst c9
   have H1:((spec_TreeOK.f k a2_0 a2_1 a2_2 l2_3).bind fun t385=>(spec_TreePut.j0 k l1 (!t385) a0_0 a0_1 a0_2 l0_3 a2_0 a2_1 a2_2 l2_3))=some (r1,r2,r3,r4,r5):=by rw [if_pos rfl] at H;exact H
   clear H
   have H:=H1
   clear H1
   replace H:=Option.bind_eq_some_iff.mp H
   obtain ⟨t385,A100,H⟩:=H
   replace H:(spec_TreePut.j0 k l1 (!t385) a0_0 a0_1 a0_2 l0_3 a2_0 a2_1 a2_2 l2_3)=some (r1,r2,r3,r4,r5):=H
   have A10:=A0_ A100
   clear A100
   have H':=A0_ H
   clear H
   have hnb11:=NB381_382.out
   have hnc11:=NB382_381.out
   have hnb12:=NB381_383.out
   have hnc12:=NB383_381.out
   obtain ⟨hcz13_0,hcz13_1,hcz13_2,hcz13_3⟩:=bc4_ BK381.out
   obtain ⟨hfz13_0,hfz13_1,hfz13_2,hfz13_3⟩:=bf4_ BK381.out
   go_wp2_with (first|((with_reducible refine gate_callee (f:=41) rfl ?_);refine goesL_ (some 10) rfl rfl Try.func41 (by kernel_rfl) rfl #[.agg #[.string a0_0, .string a0_1, .bool a0_2, .slice A0_3 l0_3.length c0_3]] rfl (by (try simp only [List.map_toArray,List.map_cons,List.map_nil]);first|done|rfl|(simp only [List.length_drop,List.length_take];rfl)) ?_;(with_reducible refine (spec_TreeOK.calls k a0_0 a0_1 a0_2 _ _ l0_3 true _ ?side1 ?side2 A8.out).mono ?_);(case side1=>repeat (first|exact (Kd.C_below HR0_3.out HB.out)|(with_reducible refine Kd.C_alloc ?_ _)|(with_reducible refine Kd.C_drewN ?_ _)|(with_reducible refine Kd.C_drew ?_)));(case side2=>exact HC0_3.out);rintro e w14 ⟨rfl,hb⟩;refine ⟨_,rfl, ?_⟩;replace BK381:=A0_ (blk_below BK381.out hb);replace BK382:=A0_ (blk_below BK382.out hb);replace BK383:=A0_ (blk_below BK383.out hb);replace HB:=A0_ (below_step HB.out hb);(try clear hb);(try clear hb2);(try clear hk);(try clear hi);have hnb15:=NB382_383.out;have hnc15:=NB383_382.out;obtain ⟨hcz16_0,hcz16_1,hcz16_2,hcz16_3⟩:=bc4_ BK382.out;obtain ⟨hfz16_0,hfz16_1,hfz16_2,hfz16_3⟩:=bf4_ BK382.out)|(go_at_call 41;(with_reducible refine (spec_TreeOK.calls k a2_0 a2_1 a2_2 _ _ l2_3 t385 _ ?side1 ?side2 A10.out).mono ?_);(case side1=>repeat (first|exact (Kd.C_below HR2_3.out HB.out)|(with_reducible refine Kd.C_alloc ?_ _)|(with_reducible refine Kd.C_drewN ?_ _)|(with_reducible refine Kd.C_drew ?_)));(case side2=>exact HC2_3.out);rintro e w17 ⟨rfl,hb⟩;replace BK381:=A0_ (blk_below BK381.out hb);replace BK382:=A0_ (blk_below BK382.out hb);replace BK383:=A0_ (blk_below BK383.out hb);replace HB:=A0_ (below_step HB.out hb);(try clear hb);(try clear hb2);(try clear hk);(try clear hi)))
   go_meet
   case rel=>exact ⟨_,(!t385),(by first|rfl|(simp;done)|(simp [*];done)|(simp [bne];done)|(simp [bne, *];done)),H',⟨by first|omega|exact Nat.le_refl _⟩,⟨by (with_reducible repeat (first|refine blk_drewN ?_ _|refine blk_drew ?_|refine blk_alloc ?_ _));exact BK381.out⟩,⟨by (with_reducible repeat (first|refine blk_drewN ?_ _|refine blk_drew ?_|refine blk_alloc ?_ _));exact BK382.out⟩,⟨by (with_reducible repeat (first|refine blk_drewN ?_ _|refine blk_drew ?_|refine blk_alloc ?_ _));exact BK383.out⟩,⟨by repeat (first|(with_reducible first|exact HB.out|apply below_alloc|apply pw_below_drewN|apply below_drew1|refine below_set ?_ GE381.out|refine below_set ?_ GE382.out|refine below_set ?_ GE383.out)|exact HB.out)⟩⟩
  ·replace c9:=Bool.eq_false_iff.mpr c9
   subst c9
   have H1:(spec_TreePut.j0 k l1 true a0_0 a0_1 a0_2 l0_3 a2_0 a2_1 a2_2 l2_3)=some (r1,r2,r3,r4,r5):=by rw [if_neg (show ¬ (false=true) by decide)] at H;exact H
   clear H
   have H:=H1
   clear H1
   have H':=A0_ H
   clear H
   have hnb18:=NB381_382.out
   have hnc18:=NB382_381.out
   have hnb19:=NB381_383.out
   have hnc19:=NB383_381.out
   obtain ⟨hcz20_0,hcz20_1,hcz20_2,hcz20_3⟩:=bc4_ BK381.out
   obtain ⟨hfz20_0,hfz20_1,hfz20_2,hfz20_3⟩:=bf4_ BK381.out
   go_wp2_with (first|((with_reducible refine gate_callee (f:=41) rfl ?_);refine goesL_ (some 10) rfl rfl Try.func41 (by kernel_rfl) rfl #[.agg #[.string a0_0, .string a0_1, .bool a0_2, .slice A0_3 l0_3.length c0_3]] rfl (by (try simp only [List.map_toArray,List.map_cons,List.map_nil]);first|done|rfl|(simp only [List.length_drop,List.length_take];rfl)) ?_;(with_reducible refine (spec_TreeOK.calls k a0_0 a0_1 a0_2 _ _ l0_3 false _ ?side1 ?side2 A8.out).mono ?_);(case side1=>repeat (first|exact (Kd.C_below HR0_3.out HB.out)|(with_reducible refine Kd.C_alloc ?_ _)|(with_reducible refine Kd.C_drewN ?_ _)|(with_reducible refine Kd.C_drew ?_)));(case side2=>exact HC0_3.out);rintro e w21 ⟨rfl,hb⟩;refine ⟨_,rfl, ?_⟩;replace BK381:=A0_ (blk_below BK381.out hb);replace BK382:=A0_ (blk_below BK382.out hb);replace BK383:=A0_ (blk_below BK383.out hb);replace HB:=A0_ (below_step HB.out hb);(try clear hb);(try clear hb2);(try clear hk);(try clear hi)))
   go_meet
   case rel=>exact ⟨_,(true),(by first|rfl|(simp;done)|(simp [*];done)|(simp [bne];done)|(simp [bne, *];done)),H',⟨by first|omega|exact Nat.le_refl _⟩,⟨by (with_reducible repeat (first|refine blk_drewN ?_ _|refine blk_drew ?_|refine blk_alloc ?_ _));exact BK381.out⟩,⟨by (with_reducible repeat (first|refine blk_drewN ?_ _|refine blk_drew ?_|refine blk_alloc ?_ _));exact BK382.out⟩,⟨by (with_reducible repeat (first|refine blk_drewN ?_ _|refine blk_drew ?_|refine blk_alloc ?_ _));exact BK383.out⟩,⟨by repeat (first|(with_reducible first|exact HB.out|apply below_alloc|apply pw_below_drewN|apply below_drew1|refine below_set ?_ GE381.out|refine below_set ?_ GE382.out|refine below_set ?_ GE383.out)|exact HB.out)⟩⟩
 case rest=>
  clear HC4
  try clear c1
  try clear c2
  try clear p2
  try clear c4
  try clear c9
  try clear c10
  try clear c11
  try clear c12
  try clear c15
  try clear c18
  try clear c19
  try clear hcz13_0
  try clear hcz13_1
  try clear hcz13_2
  try clear hcz13_3
  try clear hcz16_0
  try clear hcz16_1
  try clear hcz16_2
  try clear hcz16_3
  try clear hcz20_0
  try clear hcz20_1
  try clear hcz20_2
  try clear hcz20_3
  try clear hfz13_0
  try clear hfz13_1
  try clear hfz13_2
  try clear hfz13_3
  try clear hfz16_0
  try clear hfz16_1
  try clear hfz16_2
  try clear hfz16_3
  try clear hfz20_0
  try clear hfz20_1
  try clear hfz20_2
  try clear hfz20_3
  obtain ⟨kq,x16_3,rfl,HA,HJ3,BK381,BK382,BK383,HB⟩:=hcut
  cases kq with
  |zero=>exact absurd HA.out (by simp [spec_TreePut.j0])
  |succ kj3=>
   have H:=HA.out
   clear HA
   simp only [spec_TreePut.j0] at H
   by_cases c22:x16_3=true
   ·subst c22
    have H1:(some ((⟨#[]⟩:ByteArray),(⟨#[]⟩:ByteArray),false,([]:List (S26)),1))=some (r1,r2,r3,r4,r5):=by rw [if_pos rfl] at H;exact H
    clear H
    have H:=H1
    clear H1
    simp only [Option.some.injEq,Prod.mk.injEq] at H
    obtain ⟨rfl,rfl,rfl,rfl,rfl⟩:=H
    have hnb23:=NB383_381.out
    have hnc23:=NB381_383.out
    have hnb24:=NB383_382.out
    have hnc24:=NB382_383.out
    obtain ⟨hcz25_0,hcz25_1,hcz25_2,hcz25_3⟩:=bc4_ BK383.out
    obtain ⟨hfz25_0,hfz25_1,hfz25_2,hfz25_3⟩:=bf4_ BK383.out
    go_wp2
    refine bodyPost_ret (results_ct rfl _ _ gb383 26 #[.string (⟨#[]⟩:ByteArray), .string (⟨#[]⟩:ByteArray), .bool false, .slice none 0 0] (0,0) _ rfl (by (with_reducible repeat (first|refine blk_drewN ?_ _|refine blk_drew ?_|refine blk_alloc ?_ _));refine blk_put (cs:= #[.string (⟨#[]⟩:ByteArray), .string (⟨#[]⟩:ByteArray), .bool false, .slice none 0 0]) ?_ 3 _ rfl;(with_reducible repeat (first|refine blk_drewN ?_ _|refine blk_drew ?_|refine blk_alloc ?_ _));refine blk_put (cs:= #[.string (⟨#[]⟩:ByteArray), .string (⟨#[]⟩:ByteArray), .bool false, .slice none 0 0]) ?_ 2 _ rfl;(with_reducible repeat (first|refine blk_drewN ?_ _|refine blk_drew ?_|refine blk_alloc ?_ _));refine blk_put (cs:= #[.string (⟨#[]⟩:ByteArray), .string (⟨#[]⟩:ByteArray), .bool false, .slice none 0 0]) ?_ 1 _ rfl;(with_reducible repeat (first|refine blk_drewN ?_ _|refine blk_drew ?_|refine blk_alloc ?_ _));refine blk_put (cs:= #[.string (⟨#[]⟩:ByteArray), .string (⟨#[]⟩:ByteArray), .bool false, .slice none 0 0]) ?_ 0 _ rfl;(with_reducible repeat (first|refine blk_drewN ?_ _|refine blk_drew ?_|refine blk_alloc ?_ _));exact BK383.out) Try.underlying26 rfl (by kernel_rfl)) rfl ?_
    exact ⟨_,by first|rfl|(simp [errW_none,errW_some] <;> rfl)|(simp [*,errW_none,errW_some] <;> rfl),by first|exact Kd.R_nil _ _ _ _ _|exact Kd.N_nil _ _ _ _ _|exact Kd.V_nil _ _ _ _ _|exact Kd.Q_nil _ _ _ _ _|exact Kd.S_nil _ _ _ _ _,by repeat (first|(with_reducible first|exact HB.out|apply below_alloc|apply pw_below_drewN|apply below_drew1|refine below_set ?_ GE381.out|refine below_set ?_ GE382.out|refine below_set ?_ GE383.out)|exact HB.out)⟩
   ·replace c22:=Bool.eq_false_iff.mpr c22
    subst c22
    have H1:((spec_l01Leads.f kj3 a0_0 a0_1 a0_2 l0_3 l1).bind fun t386=>(if t386=true then ((spec_l01Put.f kj3 a0_0 a0_1 a0_2 l0_3 l1 a2_0 a2_1 a2_2 l2_3).bind fun bt387=>((spec_TreeOK.f kj3 bt387.1 bt387.2.1 bt387.2.2.1 bt387.2.2.2).bind fun t394=>(if t394=true then ((spec_l01Copy.f kj3 bt387.1 bt387.2.1 bt387.2.2.1 bt387.2.2.2).bind fun bt395=>(some (bt395.1,bt395.2.1,bt395.2.2.1,bt395.2.2.2,0))) else (some ((⟨#[]⟩:ByteArray),(⟨#[]⟩:ByteArray),false,([]:List (S26)),3))))) else (some ((⟨#[]⟩:ByteArray),(⟨#[]⟩:ByteArray),false,([]:List (S26)),4))))=some (r1,r2,r3,r4,r5):=by rw [if_neg (show ¬ (false=true) by decide)] at H;exact H
    clear H
    have H:=H1
    clear H1
    replace H:=Option.bind_eq_some_iff.mp H
    obtain ⟨t386,A260,H⟩:=H
    replace H:(if t386=true then ((spec_l01Put.f kj3 a0_0 a0_1 a0_2 l0_3 l1 a2_0 a2_1 a2_2 l2_3).bind fun bt387=>((spec_TreeOK.f kj3 bt387.1 bt387.2.1 bt387.2.2.1 bt387.2.2.2).bind fun t394=>(if t394=true then ((spec_l01Copy.f kj3 bt387.1 bt387.2.1 bt387.2.2.1 bt387.2.2.2).bind fun bt395=>(some (bt395.1,bt395.2.1,bt395.2.2.1,bt395.2.2.2,0))) else (some ((⟨#[]⟩:ByteArray),(⟨#[]⟩:ByteArray),false,([]:List (S26)),3))))) else (some ((⟨#[]⟩:ByteArray),(⟨#[]⟩:ByteArray),false,([]:List (S26)),4)))=some (r1,r2,r3,r4,r5):=H
    have A26:=A0_ A260
    clear A260
    by_cases c27:t386=true
    ·subst c27
     have H1:((spec_l01Put.f kj3 a0_0 a0_1 a0_2 l0_3 l1 a2_0 a2_1 a2_2 l2_3).bind fun bt387=>((spec_TreeOK.f kj3 bt387.1 bt387.2.1 bt387.2.2.1 bt387.2.2.2).bind fun t394=>(if t394=true then ((spec_l01Copy.f kj3 bt387.1 bt387.2.1 bt387.2.2.1 bt387.2.2.2).bind fun bt395=>(some (bt395.1,bt395.2.1,bt395.2.2.1,bt395.2.2.2,0))) else (some ((⟨#[]⟩:ByteArray),(⟨#[]⟩:ByteArray),false,([]:List (S26)),3)))))=some (r1,r2,r3,r4,r5):=by rw [if_pos rfl] at H;exact H
     clear H
     have H:=H1
     clear H1
     replace H:=Option.bind_eq_some_iff.mp H
     obtain ⟨⟨t387,t388,t389,t390⟩,A280,H⟩:=H
     replace H:((spec_TreeOK.f kj3 t387 t388 t389 t390).bind fun t394=>(if t394=true then ((spec_l01Copy.f kj3 t387 t388 t389 t390).bind fun bt395=>(some (bt395.1,bt395.2.1,bt395.2.2.1,bt395.2.2.2,0))) else (some ((⟨#[]⟩:ByteArray),(⟨#[]⟩:ByteArray),false,([]:List (S26)),3))))=some (r1,r2,r3,r4,r5):=H
     have A28:=A0_ A280
     clear A280
     replace H:=Option.bind_eq_some_iff.mp H
     obtain ⟨t394,A290,H⟩:=H
     replace H:(if t394=true then ((spec_l01Copy.f kj3 t387 t388 t389 t390).bind fun bt395=>(some (bt395.1,bt395.2.1,bt395.2.2.1,bt395.2.2.2,0))) else (some ((⟨#[]⟩:ByteArray),(⟨#[]⟩:ByteArray),false,([]:List (S26)),3)))=some (r1,r2,r3,r4,r5):=H
     have A29:=A0_ A290
     clear A290
     by_cases c30:t394=true
     ·subst c30
      have H1:((spec_l01Copy.f kj3 t387 t388 t389 t390).bind fun bt395=>(some (bt395.1,bt395.2.1,bt395.2.2.1,bt395.2.2.2,0)))=some (r1,r2,r3,r4,r5):=by rw [if_pos rfl] at H;exact H
      clear H
      have H:=H1
      clear H1
      replace H:=Option.bind_eq_some_iff.mp H
      obtain ⟨⟨t395,t396,t397,t398⟩,A310,H⟩:=H
      replace H:(some (t395,t396,t397,t398,0))=some (r1,r2,r3,r4,r5):=H
      have A31:=A0_ A310
      clear A310
      simp only [Option.some.injEq,Prod.mk.injEq] at H
      obtain ⟨rfl,rfl,rfl,rfl,rfl⟩:=H
      have hnb32:=NB381_382.out
      have hnc32:=NB382_381.out
      have hnb33:=NB381_383.out
      have hnc33:=NB383_381.out
      obtain ⟨hcz34_0,hcz34_1,hcz34_2,hcz34_3⟩:=bc4_ BK381.out
      obtain ⟨hfz34_0,hfz34_1,hfz34_2,hfz34_3⟩:=bf4_ BK381.out
      go_wp2_with (first|((with_reducible refine gate_callee (f:=42) rfl ?_);refine goesL_ (some 20) rfl rfl Try.func42 (by kernel_rfl) rfl #[.agg #[.string a0_0, .string a0_1, .bool a0_2, .slice A0_3 l0_3.length c0_3], .slice A1 l1.length c1] rfl (by (try simp only [List.map_toArray,List.map_cons,List.map_nil]);first|done|rfl|(simp only [List.length_drop,List.length_take];rfl)) ?_;(with_reducible refine (spec_l01Leads.calls kj3 a0_0 a0_1 a0_2 (fun k_=>k_ < w.heap.size) _ _ l0_3 _ _ l1 true _ ?side1 ?side2 ?side3 A26.out).mono ?_);(case side1=>exact Kd.V_mk HC0_3.out (Kd.F_below (Kd.C_F k26_heap HR0_3.out) HB.out));(case side2=>repeat (first|exact (Kd.C_below HR1.out HB.out)|(with_reducible refine Kd.C_alloc ?_ _)|(with_reducible refine Kd.C_drewN ?_ _)|(with_reducible refine Kd.C_drew ?_)));(case side3=>exact HC1.out);rintro e w35 ⟨rfl,hb⟩;refine ⟨_,rfl, ?_⟩;replace BK381:=A0_ (blk_below BK381.out hb);replace BK382:=A0_ (blk_below BK382.out hb);replace BK383:=A0_ (blk_below BK383.out hb);replace HB:=A0_ (below_step HB.out hb);(try clear hb);(try clear hb2);(try clear hk);(try clear hi);obtain ⟨hcz36_0,hcz36_1,hcz36_2,hcz36_3⟩:=bc4_ BK381.out;obtain ⟨hfz36_0,hfz36_1,hfz36_2,hfz36_3⟩:=bf4_ BK381.out;have hnb37:=NB382_383.out;have hnc37:=NB383_382.out;obtain ⟨hcz38_0,hcz38_1,hcz38_2,hcz38_3⟩:=bc4_ BK382.out;obtain ⟨hfz38_0,hfz38_1,hfz38_2,hfz38_3⟩:=bf4_ BK382.out)|((with_reducible refine gate_callee (f:=43) rfl ?_);refine goesL_ (some 26) rfl rfl Try.func43 (by kernel_rfl) rfl #[.agg #[.string a0_0, .string a0_1, .bool a0_2, .slice A0_3 l0_3.length c0_3], .slice A1 l1.length c1, .agg #[.string a2_0, .string a2_1, .bool a2_2, .slice A2_3 l2_3.length c2_3]] rfl (by (try simp only [List.map_toArray,List.map_cons,List.map_nil]);first|done|rfl|(simp only [List.length_drop,List.length_take];rfl)) ?_;(with_reducible refine (spec_l01Put.calls kj3 a0_0 a0_1 a0_2 (fun k_=>k_ < w.heap.size) _ _ l0_3 _ _ l1 a2_0 a2_1 a2_2 (fun k_=>k_ < w.heap.size) _ _ l2_3 t387 t388 t389 t390 _ ?side1 ?side2 ?side3 ?side4 A28.out).mono ?_);(case side1=>exact Kd.V_mk HC0_3.out (Kd.F_below (Kd.C_F k26_heap HR0_3.out) HB.out));(case side2=>repeat (first|exact (Kd.C_below HR1.out HB.out)|(with_reducible refine Kd.C_alloc ?_ _)|(with_reducible refine Kd.C_drewN ?_ _)|(with_reducible refine Kd.C_drew ?_)));(case side3=>exact HC1.out);(case side4=>exact Kd.V_mk HC2_3.out (Kd.F_below (Kd.C_F k26_heap HR2_3.out) HB.out));rintro e w39 ⟨v391,rfl,ho0,hb⟩;refine ⟨_,rfl, ?_⟩;have HO392:=A0_ (Kd.V_lower (Kd.V_mono (ok':=fun k_=>k_≠gb381∧k_≠gb382∧k_≠gb383) ho0 (fun k_ hk_=>⟨Or.elim hk_ (fun hs_=>Or.elim hs_ (fun hs_=>fun e_=>Nat.not_le.2 hs_ (by rw [e_];exact GW381.out)) (fun hs_=>fun e_=>Nat.not_le.2 hs_ (by rw [e_];exact GW381.out))) (fun hn_=>(Kd.freshB BK381.out k_ hn_)),Or.elim hk_ (fun hs_=>Or.elim hs_ (fun hs_=>fun e_=>Nat.not_le.2 hs_ (by rw [e_];exact GW382.out)) (fun hs_=>fun e_=>Nat.not_le.2 hs_ (by rw [e_];exact GW382.out))) (fun hn_=>(Kd.freshB BK382.out k_ hn_)),Or.elim hk_ (fun hs_=>Or.elim hs_ (fun hs_=>fun e_=>Nat.not_le.2 hs_ (by rw [e_];exact GW383.out)) (fun hs_=>fun e_=>Nat.not_le.2 hs_ (by rw [e_];exact GW383.out))) (fun hn_=>(Kd.freshB BK383.out k_ hn_))⟩)) (below_size HB.out));replace BK381:=A0_ (blk_below BK381.out hb);replace BK382:=A0_ (blk_below BK382.out hb);replace BK383:=A0_ (blk_below BK383.out hb);replace HB:=A0_ (below_step HB.out hb);(try clear hb);(try clear hb2);(try clear hk);(try clear hi);(try clear ho0))|((with_reducible refine gate_dst (N:=8) rfl ?_);refine box_event ?hg (N:=8) ?hd (cs:= #[.string (⟨#[]⟩:ByteArray), .string (⟨#[]⟩:ByteArray), .bool false, .slice none 0 0]) (t:=26) ?hr ?_;(case hd=>rfl);(case hg=>rfl);(case hr=>first|(go_simp;done)|(go_simp;rfl));intro gb393 hg w40 hbox hb;replace HO392:=A0_ (Kd.V_below (Kd.V_elderB HO392.out gb393 (Nat.le_of_eq hg.symm)) hb);have BK393:=A0_ (hbox);have GW393:=A0_ ((by rw [hg];exact (below_size HB.out):w.heap.size≤gb393));have GE393:=A0_ ((by rw [hg];exact (below_size HB.out):w.heap.size≤gb393));replace HB:=A0_ (below_step HB.out hb);have NB381_393:=A0_ ((by rw [hg];exact Nat.ne_of_lt (blk_lt BK381.out):gb381≠gb393));have NB393_381:=A0_ ((by rw [hg];exact Nat.ne_of_gt (blk_lt BK381.out):gb393≠gb381));replace BK381:=A0_ (blk_below BK381.out hb);have NB382_393:=A0_ ((by rw [hg];exact Nat.ne_of_lt (blk_lt BK382.out):gb382≠gb393));have NB393_382:=A0_ ((by rw [hg];exact Nat.ne_of_gt (blk_lt BK382.out):gb393≠gb382));replace BK382:=A0_ (blk_below BK382.out hb);have NB383_393:=A0_ ((by rw [hg];exact Nat.ne_of_lt (blk_lt BK383.out):gb383≠gb393));have NB393_383:=A0_ ((by rw [hg];exact Nat.ne_of_gt (blk_lt BK383.out):gb393≠gb383));replace BK383:=A0_ (blk_below BK383.out hb);clear hb hbox hg;have hnb41:=NB393_381.out;have hnc41:=NB381_393.out;have hnb42:=NB393_382.out;have hnc42:=NB382_393.out;have hnb43:=NB393_383.out;have hnc43:=NB383_393.out;obtain ⟨hcz44_0,hcz44_1,hcz44_2,hcz44_3⟩:=bc4_ BK393.out;obtain ⟨hfz44_0,hfz44_1,hfz44_2,hfz44_3⟩:=bf4_ BK393.out;obtain ⟨Ao45,co45,eo45⟩:=Kd.V_slice HO392.out;subst eo45)|((with_reducible refine gate_callee (f:=41) rfl ?_);refine goesL_ (some 28) rfl rfl Try.func41 (by kernel_rfl) rfl #[.agg #[.string t387, .string t388, .bool t389, .slice Ao45 t390.length co45]] rfl (by (try simp only [List.map_toArray,List.map_cons,List.map_nil]);first|done|rfl|(simp only [List.length_drop,List.length_take];rfl)) ?_;(with_reducible refine (spec_TreeOK.calls kj3 t387 t388 t389 _ _ t390 true _ ?side1 ?side2 A29.out).mono ?_);(case side1=>refine (Kd.V_reads' (e:=26) (base:=w.heap.size) (ok:=fun k_=>((k_≠gb381∧(k_≠gb382∧k_≠gb383))∧k_≠gb393)) (n:=t390.length) (c:=co45) ?_).2.2;exact (Kd.V_mono (Kd.V_far (p:=⟨gb393,3,none⟩) (Kd.V_far (p:=⟨gb393,2,none⟩) (Kd.V_far (p:=⟨gb393,1,none⟩) (Kd.V_far (p:=⟨gb393,0,none⟩) (Kd.V_mono HO392.out (fun k_ hk=>(⟨hk,hk.2⟩:_∧k_≠gb393))) (fun _ hk=>hk.2) (.string t387)) (fun _ hk=>hk.2) (.string t388)) (fun _ hk=>hk.2) (.bool t389)) (fun _ hk=>hk.2) (.slice Ao45 t390.length co45)) (fun _ h_=>h_.1)));(case side2=>exact (Kd.V_reads' HO392.out).2.1);rintro e w46 ⟨rfl,hb⟩;refine ⟨_,rfl, ?_⟩;replace HO392:=A0_ (Kd.V_below (Kd.V_mono (Kd.V_far (p:=⟨gb393,3,none⟩) (Kd.V_far (p:=⟨gb393,2,none⟩) (Kd.V_far (p:=⟨gb393,1,none⟩) (Kd.V_far (p:=⟨gb393,0,none⟩) (Kd.V_mono HO392.out (fun k_ hk=>(⟨hk,hk.2⟩:_∧k_≠gb393))) (fun _ hk=>hk.2) (.string t387)) (fun _ hk=>hk.2) (.string t388)) (fun _ hk=>hk.2) (.bool t389)) (fun _ hk=>hk.2) (.slice Ao45 t390.length co45)) (fun _ h_=>h_.1)) hb);replace BK381:=A0_ (blk_below (g:=gb381) (o:= .cells #[.string a0_0, .string a0_1, .bool a0_2, .slice A0_3 l0_3.length c0_3] 26 (0,0)) (by (with_reducible repeat (first|refine blk_drewN ?_ _|refine blk_drew ?_|refine blk_alloc ?_ _));refine blk_far ?_ NB381_393.out _;(with_reducible repeat (first|refine blk_drewN ?_ _|refine blk_drew ?_|refine blk_alloc ?_ _));refine blk_far ?_ NB381_393.out _;(with_reducible repeat (first|refine blk_drewN ?_ _|refine blk_drew ?_|refine blk_alloc ?_ _));refine blk_far ?_ NB381_393.out _;(with_reducible repeat (first|refine blk_drewN ?_ _|refine blk_drew ?_|refine blk_alloc ?_ _));refine blk_far ?_ NB381_393.out _;(with_reducible repeat (first|refine blk_drewN ?_ _|refine blk_drew ?_|refine blk_alloc ?_ _));exact BK381.out) hb);replace BK382:=A0_ (blk_below (g:=gb382) (o:= .cells #[.string a2_0, .string a2_1, .bool a2_2, .slice A2_3 l2_3.length c2_3] 26 (0,0)) (by (with_reducible repeat (first|refine blk_drewN ?_ _|refine blk_drew ?_|refine blk_alloc ?_ _));refine blk_far ?_ NB382_393.out _;(with_reducible repeat (first|refine blk_drewN ?_ _|refine blk_drew ?_|refine blk_alloc ?_ _));refine blk_far ?_ NB382_393.out _;(with_reducible repeat (first|refine blk_drewN ?_ _|refine blk_drew ?_|refine blk_alloc ?_ _));refine blk_far ?_ NB382_393.out _;(with_reducible repeat (first|refine blk_drewN ?_ _|refine blk_drew ?_|refine blk_alloc ?_ _));refine blk_far ?_ NB382_393.out _;(with_reducible repeat (first|refine blk_drewN ?_ _|refine blk_drew ?_|refine blk_alloc ?_ _));exact BK382.out) hb);replace BK383:=A0_ (blk_below (g:=gb383) (o:= .cells #[.string (⟨#[]⟩:ByteArray), .string (⟨#[]⟩:ByteArray), .bool false, .slice none 0 0] 26 (0,0)) (by (with_reducible repeat (first|refine blk_drewN ?_ _|refine blk_drew ?_|refine blk_alloc ?_ _));refine blk_far ?_ NB383_393.out _;(with_reducible repeat (first|refine blk_drewN ?_ _|refine blk_drew ?_|refine blk_alloc ?_ _));refine blk_far ?_ NB383_393.out _;(with_reducible repeat (first|refine blk_drewN ?_ _|refine blk_drew ?_|refine blk_alloc ?_ _));refine blk_far ?_ NB383_393.out _;(with_reducible repeat (first|refine blk_drewN ?_ _|refine blk_drew ?_|refine blk_alloc ?_ _));refine blk_far ?_ NB383_393.out _;(with_reducible repeat (first|refine blk_drewN ?_ _|refine blk_drew ?_|refine blk_alloc ?_ _));exact BK383.out) hb);replace BK393:=A0_ (blk_below (g:=gb393) (o:= .cells #[.string t387, .string t388, .bool t389, .slice Ao45 t390.length co45] 26 (0,0)) (by (with_reducible repeat (first|refine blk_drewN ?_ _|refine blk_drew ?_|refine blk_alloc ?_ _));refine blk_put (cs:= #[.string t387, .string t388, .bool t389, .slice none 0 0]) ?_ 3 _ rfl;(with_reducible repeat (first|refine blk_drewN ?_ _|refine blk_drew ?_|refine blk_alloc ?_ _));refine blk_put (cs:= #[.string t387, .string t388, .bool false, .slice none 0 0]) ?_ 2 _ rfl;(with_reducible repeat (first|refine blk_drewN ?_ _|refine blk_drew ?_|refine blk_alloc ?_ _));refine blk_put (cs:= #[.string t387, .string (⟨#[]⟩:ByteArray), .bool false, .slice none 0 0]) ?_ 1 _ rfl;(with_reducible repeat (first|refine blk_drewN ?_ _|refine blk_drew ?_|refine blk_alloc ?_ _));refine blk_put (cs:= #[.string (⟨#[]⟩:ByteArray), .string (⟨#[]⟩:ByteArray), .bool false, .slice none 0 0]) ?_ 0 _ rfl;(with_reducible repeat (first|refine blk_drewN ?_ _|refine blk_drew ?_|refine blk_alloc ?_ _));exact BK393.out) hb);replace HB:=A0_ (below_step (by repeat (first|(with_reducible first|exact HB.out|apply below_alloc|apply pw_below_drewN|apply below_drew1|refine below_set ?_ GE381.out|refine below_set ?_ GE382.out|refine below_set ?_ GE383.out|refine below_set ?_ GE393.out)|exact HB.out)) hb);(try clear hb);(try clear hb2);(try clear hk);(try clear hi);obtain ⟨hcz47_0,hcz47_1,hcz47_2,hcz47_3⟩:=bc4_ BK393.out;obtain ⟨hfz47_0,hfz47_1,hfz47_2,hfz47_3⟩:=bf4_ BK393.out)|((with_reducible refine gate_callee (f:=44) rfl ?_);refine goesL_ (some 32) rfl rfl Try.func44 (by kernel_rfl) rfl #[.agg #[.string t387, .string t388, .bool t389, .slice Ao45 t390.length co45]] rfl (by (try simp only [List.map_toArray,List.map_cons,List.map_nil]);first|done|rfl|(simp only [List.length_drop,List.length_take];rfl)) ?_;(with_reducible refine (spec_l01Copy.calls kj3 t387 t388 t389 _ _ t390 t395 t396 t397 t398 _ ?side1 ?side2 A31.out).mono ?_);(case side1=>repeat (first|exact (Kd.V_reads' HO392.out).2.2|(with_reducible refine Kd.C_alloc ?_ _)|(with_reducible refine Kd.C_drewN ?_ _)|(with_reducible refine Kd.C_drew ?_)));(case side2=>exact (Kd.V_reads' HO392.out).2.1);rintro e w48 ⟨v399,rfl,ho0,hb⟩;refine ⟨_,rfl, ?_⟩;replace HO392:=A0_ (Kd.V_elder' HO392.out (Kd.R_base ho0) hb);have HO400:=A0_ (Kd.R_lower (Kd.R_newB (Kd.R_newB (Kd.R_newB (Kd.R_newB ho0 BK381.out) BK382.out) BK383.out) BK393.out) (below_size HB.out));replace BK381:=A0_ (blk_below BK381.out hb);replace BK382:=A0_ (blk_below BK382.out hb);replace BK383:=A0_ (blk_below BK383.out hb);replace BK393:=A0_ (blk_below BK393.out hb);replace HB:=A0_ (below_step HB.out hb);(try clear hb);(try clear hb2);(try clear hk);(try clear hi);(try clear ho0);obtain ⟨hcz49_0,hcz49_1,hcz49_2,hcz49_3⟩:=bc4_ BK383.out;obtain ⟨hfz49_0,hfz49_1,hfz49_2,hfz49_3⟩:=bf4_ BK383.out;obtain ⟨Ao50,co50,eo50⟩:=Kd.R_slice HO400.out;subst eo50))
      refine bodyPost_ret (results_ct rfl _ _ gb383 26 #[.string t395, .string t396, .bool t397, .slice Ao50 t398.length co50] (0,0) _ rfl (by (with_reducible repeat (first|refine blk_drewN ?_ _|refine blk_drew ?_|refine blk_alloc ?_ _));refine blk_put (cs:= #[.string t395, .string t396, .bool t397, .slice none 0 0]) ?_ 3 _ rfl;(with_reducible repeat (first|refine blk_drewN ?_ _|refine blk_drew ?_|refine blk_alloc ?_ _));refine blk_put (cs:= #[.string t395, .string t396, .bool false, .slice none 0 0]) ?_ 2 _ rfl;(with_reducible repeat (first|refine blk_drewN ?_ _|refine blk_drew ?_|refine blk_alloc ?_ _));refine blk_put (cs:= #[.string t395, .string (⟨#[]⟩:ByteArray), .bool false, .slice none 0 0]) ?_ 1 _ rfl;(with_reducible repeat (first|refine blk_drewN ?_ _|refine blk_drew ?_|refine blk_alloc ?_ _));refine blk_put (cs:= #[.string (⟨#[]⟩:ByteArray), .string (⟨#[]⟩:ByteArray), .bool false, .slice none 0 0]) ?_ 0 _ rfl;(with_reducible repeat (first|refine blk_drewN ?_ _|refine blk_drew ?_|refine blk_alloc ?_ _));exact BK383.out) Try.underlying26 rfl (by kernel_rfl)) rfl ?_
      exact ⟨_,by first|rfl|(simp [errW_none,errW_some] <;> rfl)|(simp [*,errW_none,errW_some] <;> rfl),by (with_reducible repeat (first|apply Kd.R_alloc|apply Kd.R_drewN|apply Kd.R_drew));exact Kd.R_mono (Kd.R_far (p:=⟨gb383,3,none⟩) (Kd.R_far (p:=⟨gb383,2,none⟩) (Kd.R_far (p:=⟨gb383,1,none⟩) (Kd.R_far (p:=⟨gb383,0,none⟩) (Kd.R_mono HO400.out (fun k_ hk=>(⟨hk,hk.1.2⟩:_∧k_≠gb383))) (fun _ hk=>hk.2) (.string t395)) (fun _ hk=>hk.2) (.string t396)) (fun _ hk=>hk.2) (.bool t397)) (fun _ hk=>hk.2) (.slice Ao50 t398.length co50)) (fun _ hk=>trivial),by repeat (first|(with_reducible first|exact HB.out|apply below_alloc|apply pw_below_drewN|apply below_drew1|refine below_set ?_ GE381.out|refine below_set ?_ GE382.out|refine below_set ?_ GE383.out|refine below_set ?_ GE393.out)|exact HB.out)⟩
     ·replace c30:=Bool.eq_false_iff.mpr c30
      subst c30
      have H1:(some ((⟨#[]⟩:ByteArray),(⟨#[]⟩:ByteArray),false,([]:List (S26)),3))=some (r1,r2,r3,r4,r5):=by rw [if_neg (show ¬ (false=true) by decide)] at H;exact H
      clear H
      have H:=H1
      clear H1
      simp only [Option.some.injEq,Prod.mk.injEq] at H
      obtain ⟨rfl,rfl,rfl,rfl,rfl⟩:=H
      have hnb51:=NB381_382.out
      have hnc51:=NB382_381.out
      have hnb52:=NB381_383.out
      have hnc52:=NB383_381.out
      obtain ⟨hcz53_0,hcz53_1,hcz53_2,hcz53_3⟩:=bc4_ BK381.out
      obtain ⟨hfz53_0,hfz53_1,hfz53_2,hfz53_3⟩:=bf4_ BK381.out
      go_wp2_with (first|((with_reducible refine gate_callee (f:=42) rfl ?_);refine goesL_ (some 20) rfl rfl Try.func42 (by kernel_rfl) rfl #[.agg #[.string a0_0, .string a0_1, .bool a0_2, .slice A0_3 l0_3.length c0_3], .slice A1 l1.length c1] rfl (by (try simp only [List.map_toArray,List.map_cons,List.map_nil]);first|done|rfl|(simp only [List.length_drop,List.length_take];rfl)) ?_;(with_reducible refine (spec_l01Leads.calls kj3 a0_0 a0_1 a0_2 (fun k_=>k_ < w.heap.size) _ _ l0_3 _ _ l1 true _ ?side1 ?side2 ?side3 A26.out).mono ?_);(case side1=>exact Kd.V_mk HC0_3.out (Kd.F_below (Kd.C_F k26_heap HR0_3.out) HB.out));(case side2=>repeat (first|exact (Kd.C_below HR1.out HB.out)|(with_reducible refine Kd.C_alloc ?_ _)|(with_reducible refine Kd.C_drewN ?_ _)|(with_reducible refine Kd.C_drew ?_)));(case side3=>exact HC1.out);rintro e w54 ⟨rfl,hb⟩;refine ⟨_,rfl, ?_⟩;replace BK381:=A0_ (blk_below BK381.out hb);replace BK382:=A0_ (blk_below BK382.out hb);replace BK383:=A0_ (blk_below BK383.out hb);replace HB:=A0_ (below_step HB.out hb);(try clear hb);(try clear hb2);(try clear hk);(try clear hi);obtain ⟨hcz55_0,hcz55_1,hcz55_2,hcz55_3⟩:=bc4_ BK381.out;obtain ⟨hfz55_0,hfz55_1,hfz55_2,hfz55_3⟩:=bf4_ BK381.out;have hnb56:=NB382_383.out;have hnc56:=NB383_382.out;obtain ⟨hcz57_0,hcz57_1,hcz57_2,hcz57_3⟩:=bc4_ BK382.out;obtain ⟨hfz57_0,hfz57_1,hfz57_2,hfz57_3⟩:=bf4_ BK382.out)|((with_reducible refine gate_callee (f:=43) rfl ?_);refine goesL_ (some 26) rfl rfl Try.func43 (by kernel_rfl) rfl #[.agg #[.string a0_0, .string a0_1, .bool a0_2, .slice A0_3 l0_3.length c0_3], .slice A1 l1.length c1, .agg #[.string a2_0, .string a2_1, .bool a2_2, .slice A2_3 l2_3.length c2_3]] rfl (by (try simp only [List.map_toArray,List.map_cons,List.map_nil]);first|done|rfl|(simp only [List.length_drop,List.length_take];rfl)) ?_;(with_reducible refine (spec_l01Put.calls kj3 a0_0 a0_1 a0_2 (fun k_=>k_ < w.heap.size) _ _ l0_3 _ _ l1 a2_0 a2_1 a2_2 (fun k_=>k_ < w.heap.size) _ _ l2_3 t387 t388 t389 t390 _ ?side1 ?side2 ?side3 ?side4 A28.out).mono ?_);(case side1=>exact Kd.V_mk HC0_3.out (Kd.F_below (Kd.C_F k26_heap HR0_3.out) HB.out));(case side2=>repeat (first|exact (Kd.C_below HR1.out HB.out)|(with_reducible refine Kd.C_alloc ?_ _)|(with_reducible refine Kd.C_drewN ?_ _)|(with_reducible refine Kd.C_drew ?_)));(case side3=>exact HC1.out);(case side4=>exact Kd.V_mk HC2_3.out (Kd.F_below (Kd.C_F k26_heap HR2_3.out) HB.out));rintro e w58 ⟨v391,rfl,ho0,hb⟩;refine ⟨_,rfl, ?_⟩;have HO392:=A0_ (Kd.V_lower (Kd.V_mono (ok':=fun k_=>k_≠gb381∧k_≠gb382∧k_≠gb383) ho0 (fun k_ hk_=>⟨Or.elim hk_ (fun hs_=>Or.elim hs_ (fun hs_=>fun e_=>Nat.not_le.2 hs_ (by rw [e_];exact GW381.out)) (fun hs_=>fun e_=>Nat.not_le.2 hs_ (by rw [e_];exact GW381.out))) (fun hn_=>(Kd.freshB BK381.out k_ hn_)),Or.elim hk_ (fun hs_=>Or.elim hs_ (fun hs_=>fun e_=>Nat.not_le.2 hs_ (by rw [e_];exact GW382.out)) (fun hs_=>fun e_=>Nat.not_le.2 hs_ (by rw [e_];exact GW382.out))) (fun hn_=>(Kd.freshB BK382.out k_ hn_)),Or.elim hk_ (fun hs_=>Or.elim hs_ (fun hs_=>fun e_=>Nat.not_le.2 hs_ (by rw [e_];exact GW383.out)) (fun hs_=>fun e_=>Nat.not_le.2 hs_ (by rw [e_];exact GW383.out))) (fun hn_=>(Kd.freshB BK383.out k_ hn_))⟩)) (below_size HB.out));replace BK381:=A0_ (blk_below BK381.out hb);replace BK382:=A0_ (blk_below BK382.out hb);replace BK383:=A0_ (blk_below BK383.out hb);replace HB:=A0_ (below_step HB.out hb);(try clear hb);(try clear hb2);(try clear hk);(try clear hi);(try clear ho0))|((with_reducible refine gate_dst (N:=8) rfl ?_);refine box_event ?hg (N:=8) ?hd (cs:= #[.string (⟨#[]⟩:ByteArray), .string (⟨#[]⟩:ByteArray), .bool false, .slice none 0 0]) (t:=26) ?hr ?_;(case hd=>rfl);(case hg=>rfl);(case hr=>first|(go_simp;done)|(go_simp;rfl));intro gb393 hg w59 hbox hb;replace HO392:=A0_ (Kd.V_below (Kd.V_elderB HO392.out gb393 (Nat.le_of_eq hg.symm)) hb);have BK393:=A0_ (hbox);have GW393:=A0_ ((by rw [hg];exact (below_size HB.out):w.heap.size≤gb393));have GE393:=A0_ ((by rw [hg];exact (below_size HB.out):w.heap.size≤gb393));replace HB:=A0_ (below_step HB.out hb);have NB381_393:=A0_ ((by rw [hg];exact Nat.ne_of_lt (blk_lt BK381.out):gb381≠gb393));have NB393_381:=A0_ ((by rw [hg];exact Nat.ne_of_gt (blk_lt BK381.out):gb393≠gb381));replace BK381:=A0_ (blk_below BK381.out hb);have NB382_393:=A0_ ((by rw [hg];exact Nat.ne_of_lt (blk_lt BK382.out):gb382≠gb393));have NB393_382:=A0_ ((by rw [hg];exact Nat.ne_of_gt (blk_lt BK382.out):gb393≠gb382));replace BK382:=A0_ (blk_below BK382.out hb);have NB383_393:=A0_ ((by rw [hg];exact Nat.ne_of_lt (blk_lt BK383.out):gb383≠gb393));have NB393_383:=A0_ ((by rw [hg];exact Nat.ne_of_gt (blk_lt BK383.out):gb393≠gb383));replace BK383:=A0_ (blk_below BK383.out hb);clear hb hbox hg;have hnb60:=NB393_381.out;have hnc60:=NB381_393.out;have hnb61:=NB393_382.out;have hnc61:=NB382_393.out;have hnb62:=NB393_383.out;have hnc62:=NB383_393.out;obtain ⟨hcz63_0,hcz63_1,hcz63_2,hcz63_3⟩:=bc4_ BK393.out;obtain ⟨hfz63_0,hfz63_1,hfz63_2,hfz63_3⟩:=bf4_ BK393.out;obtain ⟨Ao64,co64,eo64⟩:=Kd.V_slice HO392.out;subst eo64)|((with_reducible refine gate_callee (f:=41) rfl ?_);refine goesL_ (some 28) rfl rfl Try.func41 (by kernel_rfl) rfl #[.agg #[.string t387, .string t388, .bool t389, .slice Ao64 t390.length co64]] rfl (by (try simp only [List.map_toArray,List.map_cons,List.map_nil]);first|done|rfl|(simp only [List.length_drop,List.length_take];rfl)) ?_;(with_reducible refine (spec_TreeOK.calls kj3 t387 t388 t389 _ _ t390 false _ ?side1 ?side2 A29.out).mono ?_);(case side1=>refine (Kd.V_reads' (e:=26) (base:=w.heap.size) (ok:=fun k_=>((k_≠gb381∧(k_≠gb382∧k_≠gb383))∧k_≠gb393)) (n:=t390.length) (c:=co64) ?_).2.2;exact (Kd.V_mono (Kd.V_far (p:=⟨gb393,3,none⟩) (Kd.V_far (p:=⟨gb393,2,none⟩) (Kd.V_far (p:=⟨gb393,1,none⟩) (Kd.V_far (p:=⟨gb393,0,none⟩) (Kd.V_mono HO392.out (fun k_ hk=>(⟨hk,hk.2⟩:_∧k_≠gb393))) (fun _ hk=>hk.2) (.string t387)) (fun _ hk=>hk.2) (.string t388)) (fun _ hk=>hk.2) (.bool t389)) (fun _ hk=>hk.2) (.slice Ao64 t390.length co64)) (fun _ h_=>h_.1)));(case side2=>exact (Kd.V_reads' HO392.out).2.1);rintro e w65 ⟨rfl,hb⟩;refine ⟨_,rfl, ?_⟩;replace HO392:=A0_ (Kd.V_below (Kd.V_mono (Kd.V_far (p:=⟨gb393,3,none⟩) (Kd.V_far (p:=⟨gb393,2,none⟩) (Kd.V_far (p:=⟨gb393,1,none⟩) (Kd.V_far (p:=⟨gb393,0,none⟩) (Kd.V_mono HO392.out (fun k_ hk=>(⟨hk,hk.2⟩:_∧k_≠gb393))) (fun _ hk=>hk.2) (.string t387)) (fun _ hk=>hk.2) (.string t388)) (fun _ hk=>hk.2) (.bool t389)) (fun _ hk=>hk.2) (.slice Ao64 t390.length co64)) (fun _ h_=>h_.1)) hb);replace BK381:=A0_ (blk_below (g:=gb381) (o:= .cells #[.string a0_0, .string a0_1, .bool a0_2, .slice A0_3 l0_3.length c0_3] 26 (0,0)) (by (with_reducible repeat (first|refine blk_drewN ?_ _|refine blk_drew ?_|refine blk_alloc ?_ _));refine blk_far ?_ NB381_393.out _;(with_reducible repeat (first|refine blk_drewN ?_ _|refine blk_drew ?_|refine blk_alloc ?_ _));refine blk_far ?_ NB381_393.out _;(with_reducible repeat (first|refine blk_drewN ?_ _|refine blk_drew ?_|refine blk_alloc ?_ _));refine blk_far ?_ NB381_393.out _;(with_reducible repeat (first|refine blk_drewN ?_ _|refine blk_drew ?_|refine blk_alloc ?_ _));refine blk_far ?_ NB381_393.out _;(with_reducible repeat (first|refine blk_drewN ?_ _|refine blk_drew ?_|refine blk_alloc ?_ _));exact BK381.out) hb);replace BK382:=A0_ (blk_below (g:=gb382) (o:= .cells #[.string a2_0, .string a2_1, .bool a2_2, .slice A2_3 l2_3.length c2_3] 26 (0,0)) (by (with_reducible repeat (first|refine blk_drewN ?_ _|refine blk_drew ?_|refine blk_alloc ?_ _));refine blk_far ?_ NB382_393.out _;(with_reducible repeat (first|refine blk_drewN ?_ _|refine blk_drew ?_|refine blk_alloc ?_ _));refine blk_far ?_ NB382_393.out _;(with_reducible repeat (first|refine blk_drewN ?_ _|refine blk_drew ?_|refine blk_alloc ?_ _));refine blk_far ?_ NB382_393.out _;(with_reducible repeat (first|refine blk_drewN ?_ _|refine blk_drew ?_|refine blk_alloc ?_ _));refine blk_far ?_ NB382_393.out _;(with_reducible repeat (first|refine blk_drewN ?_ _|refine blk_drew ?_|refine blk_alloc ?_ _));exact BK382.out) hb);replace BK383:=A0_ (blk_below (g:=gb383) (o:= .cells #[.string (⟨#[]⟩:ByteArray), .string (⟨#[]⟩:ByteArray), .bool false, .slice none 0 0] 26 (0,0)) (by (with_reducible repeat (first|refine blk_drewN ?_ _|refine blk_drew ?_|refine blk_alloc ?_ _));refine blk_far ?_ NB383_393.out _;(with_reducible repeat (first|refine blk_drewN ?_ _|refine blk_drew ?_|refine blk_alloc ?_ _));refine blk_far ?_ NB383_393.out _;(with_reducible repeat (first|refine blk_drewN ?_ _|refine blk_drew ?_|refine blk_alloc ?_ _));refine blk_far ?_ NB383_393.out _;(with_reducible repeat (first|refine blk_drewN ?_ _|refine blk_drew ?_|refine blk_alloc ?_ _));refine blk_far ?_ NB383_393.out _;(with_reducible repeat (first|refine blk_drewN ?_ _|refine blk_drew ?_|refine blk_alloc ?_ _));exact BK383.out) hb);replace BK393:=A0_ (blk_below (g:=gb393) (o:= .cells #[.string t387, .string t388, .bool t389, .slice Ao64 t390.length co64] 26 (0,0)) (by (with_reducible repeat (first|refine blk_drewN ?_ _|refine blk_drew ?_|refine blk_alloc ?_ _));refine blk_put (cs:= #[.string t387, .string t388, .bool t389, .slice none 0 0]) ?_ 3 _ rfl;(with_reducible repeat (first|refine blk_drewN ?_ _|refine blk_drew ?_|refine blk_alloc ?_ _));refine blk_put (cs:= #[.string t387, .string t388, .bool false, .slice none 0 0]) ?_ 2 _ rfl;(with_reducible repeat (first|refine blk_drewN ?_ _|refine blk_drew ?_|refine blk_alloc ?_ _));refine blk_put (cs:= #[.string t387, .string (⟨#[]⟩:ByteArray), .bool false, .slice none 0 0]) ?_ 1 _ rfl;(with_reducible repeat (first|refine blk_drewN ?_ _|refine blk_drew ?_|refine blk_alloc ?_ _));refine blk_put (cs:= #[.string (⟨#[]⟩:ByteArray), .string (⟨#[]⟩:ByteArray), .bool false, .slice none 0 0]) ?_ 0 _ rfl;(with_reducible repeat (first|refine blk_drewN ?_ _|refine blk_drew ?_|refine blk_alloc ?_ _));exact BK393.out) hb);replace HB:=A0_ (below_step (by repeat (first|(with_reducible first|exact HB.out|apply below_alloc|apply pw_below_drewN|apply below_drew1|refine below_set ?_ GE381.out|refine below_set ?_ GE382.out|refine below_set ?_ GE383.out|refine below_set ?_ GE393.out)|exact HB.out)) hb);(try clear hb);(try clear hb2);(try clear hk);(try clear hi);obtain ⟨hcz66_0,hcz66_1,hcz66_2,hcz66_3⟩:=bc4_ BK383.out;obtain ⟨hfz66_0,hfz66_1,hfz66_2,hfz66_3⟩:=bf4_ BK383.out))
      refine bodyPost_ret (results_ct rfl _ _ gb383 26 #[.string (⟨#[]⟩:ByteArray), .string (⟨#[]⟩:ByteArray), .bool false, .slice none 0 0] (0,0) _ rfl (by (with_reducible repeat (first|refine blk_drewN ?_ _|refine blk_drew ?_|refine blk_alloc ?_ _));refine blk_put (cs:= #[.string (⟨#[]⟩:ByteArray), .string (⟨#[]⟩:ByteArray), .bool false, .slice none 0 0]) ?_ 3 _ rfl;(with_reducible repeat (first|refine blk_drewN ?_ _|refine blk_drew ?_|refine blk_alloc ?_ _));refine blk_put (cs:= #[.string (⟨#[]⟩:ByteArray), .string (⟨#[]⟩:ByteArray), .bool false, .slice none 0 0]) ?_ 2 _ rfl;(with_reducible repeat (first|refine blk_drewN ?_ _|refine blk_drew ?_|refine blk_alloc ?_ _));refine blk_put (cs:= #[.string (⟨#[]⟩:ByteArray), .string (⟨#[]⟩:ByteArray), .bool false, .slice none 0 0]) ?_ 1 _ rfl;(with_reducible repeat (first|refine blk_drewN ?_ _|refine blk_drew ?_|refine blk_alloc ?_ _));refine blk_put (cs:= #[.string (⟨#[]⟩:ByteArray), .string (⟨#[]⟩:ByteArray), .bool false, .slice none 0 0]) ?_ 0 _ rfl;(with_reducible repeat (first|refine blk_drewN ?_ _|refine blk_drew ?_|refine blk_alloc ?_ _));exact BK383.out) Try.underlying26 rfl (by kernel_rfl)) rfl ?_
      exact ⟨_,by first|rfl|(simp [errW_none,errW_some] <;> rfl)|(simp [*,errW_none,errW_some] <;> rfl),by first|exact Kd.R_nil _ _ _ _ _|exact Kd.N_nil _ _ _ _ _|exact Kd.V_nil _ _ _ _ _|exact Kd.Q_nil _ _ _ _ _|exact Kd.S_nil _ _ _ _ _,by repeat (first|(with_reducible first|exact HB.out|apply below_alloc|apply pw_below_drewN|apply below_drew1|refine below_set ?_ GE381.out|refine below_set ?_ GE382.out|refine below_set ?_ GE383.out|refine below_set ?_ GE393.out)|exact HB.out)⟩
    ·replace c27:=Bool.eq_false_iff.mpr c27
     subst c27
     have H1:(some ((⟨#[]⟩:ByteArray),(⟨#[]⟩:ByteArray),false,([]:List (S26)),4))=some (r1,r2,r3,r4,r5):=by rw [if_neg (show ¬ (false=true) by decide)] at H;exact H
     clear H
     have H:=H1
     clear H1
     simp only [Option.some.injEq,Prod.mk.injEq] at H
     obtain ⟨rfl,rfl,rfl,rfl,rfl⟩:=H
     have hnb67:=NB381_382.out
     have hnc67:=NB382_381.out
     have hnb68:=NB381_383.out
     have hnc68:=NB383_381.out
     obtain ⟨hcz69_0,hcz69_1,hcz69_2,hcz69_3⟩:=bc4_ BK381.out
     obtain ⟨hfz69_0,hfz69_1,hfz69_2,hfz69_3⟩:=bf4_ BK381.out
     go_wp2_with (first|((with_reducible refine gate_callee (f:=42) rfl ?_);refine goesL_ (some 20) rfl rfl Try.func42 (by kernel_rfl) rfl #[.agg #[.string a0_0, .string a0_1, .bool a0_2, .slice A0_3 l0_3.length c0_3], .slice A1 l1.length c1] rfl (by (try simp only [List.map_toArray,List.map_cons,List.map_nil]);first|done|rfl|(simp only [List.length_drop,List.length_take];rfl)) ?_;(with_reducible refine (spec_l01Leads.calls kj3 a0_0 a0_1 a0_2 (fun k_=>k_ < w.heap.size) _ _ l0_3 _ _ l1 false _ ?side1 ?side2 ?side3 A26.out).mono ?_);(case side1=>exact Kd.V_mk HC0_3.out (Kd.F_below (Kd.C_F k26_heap HR0_3.out) HB.out));(case side2=>repeat (first|exact (Kd.C_below HR1.out HB.out)|(with_reducible refine Kd.C_alloc ?_ _)|(with_reducible refine Kd.C_drewN ?_ _)|(with_reducible refine Kd.C_drew ?_)));(case side3=>exact HC1.out);rintro e w70 ⟨rfl,hb⟩;refine ⟨_,rfl, ?_⟩;replace BK381:=A0_ (blk_below BK381.out hb);replace BK382:=A0_ (blk_below BK382.out hb);replace BK383:=A0_ (blk_below BK383.out hb);replace HB:=A0_ (below_step HB.out hb);(try clear hb);(try clear hb2);(try clear hk);(try clear hi);have hnb71:=NB383_382.out;have hnc71:=NB382_383.out;obtain ⟨hcz72_0,hcz72_1,hcz72_2,hcz72_3⟩:=bc4_ BK383.out;obtain ⟨hfz72_0,hfz72_1,hfz72_2,hfz72_3⟩:=bf4_ BK383.out))
     refine bodyPost_ret (results_ct rfl _ _ gb383 26 #[.string (⟨#[]⟩:ByteArray), .string (⟨#[]⟩:ByteArray), .bool false, .slice none 0 0] (0,0) _ rfl (by (with_reducible repeat (first|refine blk_drewN ?_ _|refine blk_drew ?_|refine blk_alloc ?_ _));refine blk_put (cs:= #[.string (⟨#[]⟩:ByteArray), .string (⟨#[]⟩:ByteArray), .bool false, .slice none 0 0]) ?_ 3 _ rfl;(with_reducible repeat (first|refine blk_drewN ?_ _|refine blk_drew ?_|refine blk_alloc ?_ _));refine blk_put (cs:= #[.string (⟨#[]⟩:ByteArray), .string (⟨#[]⟩:ByteArray), .bool false, .slice none 0 0]) ?_ 2 _ rfl;(with_reducible repeat (first|refine blk_drewN ?_ _|refine blk_drew ?_|refine blk_alloc ?_ _));refine blk_put (cs:= #[.string (⟨#[]⟩:ByteArray), .string (⟨#[]⟩:ByteArray), .bool false, .slice none 0 0]) ?_ 1 _ rfl;(with_reducible repeat (first|refine blk_drewN ?_ _|refine blk_drew ?_|refine blk_alloc ?_ _));refine blk_put (cs:= #[.string (⟨#[]⟩:ByteArray), .string (⟨#[]⟩:ByteArray), .bool false, .slice none 0 0]) ?_ 0 _ rfl;(with_reducible repeat (first|refine blk_drewN ?_ _|refine blk_drew ?_|refine blk_alloc ?_ _));exact BK383.out) Try.underlying26 rfl (by kernel_rfl)) rfl ?_
     exact ⟨_,by first|rfl|(simp [errW_none,errW_some] <;> rfl)|(simp [*,errW_none,errW_some] <;> rfl),by first|exact Kd.R_nil _ _ _ _ _|exact Kd.N_nil _ _ _ _ _|exact Kd.V_nil _ _ _ _ _|exact Kd.Q_nil _ _ _ _ _|exact Kd.S_nil _ _ _ _ _,by repeat (first|(with_reducible first|exact HB.out|apply below_alloc|apply pw_below_drewN|apply below_drew1|refine below_set ?_ GE381.out|refine below_set ?_ GE382.out|refine below_set ?_ GE383.out)|exact HB.out)⟩
end Go.Proofs.Ytakpkmkjhndpjaa.Q
end
section
namespace Go.Proofs.Ytakpkmkjhndpjaa.Q
open Go.RowKit Go.Proofs.YtakpkmkjhndpjaaW.PrintWords Go.Proofs.YtakpkmkjhndpjaaW.PrintLast Go.Proofs.YtakpkmkjhndpjaaW.PrintMore
attribute [local go_sem] max2_int min2_int max_two min_two max_three min_three max_four min_four
set_option linter.unusedVariables false
set_option linter.unusedSimpArgs false
def impl_at.l0:Nat→List Int→Int→Int→ByteArray→ByteArray→Bool→List (S26)→Option (ByteArray × ByteArray × Bool × (List (S26)) × Bool)
 |0,_,_,_,_,_,_,_=>none
 |k + 1,x8,x9,x10,x406000,x406001,x406002,x406003=>if x10 < x9 then (if 0≤x10 then (if x10 < (x8.length:Int) then (if (rd x8 x10) < 0 then (some ((⟨#[]⟩:ByteArray),(⟨#[]⟩:ByteArray),false,([]:List (S26)),false)) else (if (rd x8 x10) ≥ (x406003.length:Int) then (some ((⟨#[]⟩:ByteArray),(⟨#[]⟩:ByteArray),false,([]:List (S26)),false)) else (if 0≤(rd x8 x10) then (if (rd x8 x10) < (x406003.length:Int) then (impl_at.l0 k x8 x9 (wrap64 (x10 + 1)) ((rd_T26 x406003 (rd x8 x10)).f0) ((rd_T26 x406003 (rd x8 x10)).f1) ((rd_T26 x406003 (rd x8 x10)).f2) ((rd_T26 x406003 (rd x8 x10)).f3)) else (none)) else (none)))) else (none)) else (none)) else (some (x406000,x406001,x406002,x406003,true))
def impl_at.f (k:Nat) (a0_0:ByteArray) (a0_1:ByteArray) (a0_2:Bool) (l0_3:List (S26)) (l1:List Int):Option (ByteArray × ByteArray × Bool × (List (S26)) × Bool):=impl_at.l0 k l1 (l1.length:Int) 0 a0_0 a0_1 a0_2 l0_3
set_option maxHeartbeats 8000000 in
set_option maxRecDepth 100000 in
theorem impl_at.calls (k:Nat) (a0_0:ByteArray) (a0_1:ByteArray) (a0_2:Bool) (P0_3_:Nat→Prop) (A0_3:Option Addr) (c0_3:Nat) (l0_3:List (S26)) (A1:Option Addr) (c1:Nat) (l1:List Int) (r1:ByteArray) (r2:ByteArray) (r3:Bool) (r4:List (S26)) (r5:Bool) (w:World) (hs0_3:Kd.V k26 26 w w.heap.size (fun k_=>P0_3_ k_) (.slice A0_3 l0_3.length c0_3) l0_3) (hr1:Kd.C (Kd.int .i64) w A1 l1.length l1) (hc1:l1.length≤c1) (h:impl_at.f k a0_0 a0_1 a0_2 l0_3 l1=some (r1,r2,r3,r4,r5)):
  Calls Try.prog 46 #[.agg #[.string a0_0, .string a0_1, .bool a0_2, .slice A0_3 l0_3.length c0_3], .slice A1 l1.length c1] w fun e w'=> ∃ v3_:Value,e= .returned (.tuple #[.agg #[.string r1, .string r2, .bool r3,v3_], .bool r5])∧Kd.V k26 26 w' w.heap.size (fun k_=>(P0_3_ k_∨w.heap.size≤k_)) v3_ r4∧Below w.heap.size w w':=by
 have hu26:=Try.underlying26
 have HO0_3:=A0_ (show Kd.V k26 26 w w.heap.size (fun k_=>(P0_3_ k_∨w.heap.size≤k_)) (.slice A0_3 l0_3.length c0_3) l0_3 from Kd.V_mono hs0_3 (fun k_ hk=> .inl hk))
 have HR1:=A0_ hr1
 have HC1:=A0_ hc1
 clear hr1 hc1
 have HB:=A0_ (Below.refl w.heap.size w)
 have H:(impl_at.l0 k l1 (l1.length:Int) 0 a0_0 a0_1 a0_2 l0_3)=some (r1,r2,r3,r4,r5):=h
 clear h
 have H':=A0_ H
 clear H
 go_enter Try.func46,Try.ntmps46
 go_wp2_with (first|((with_reducible refine gate_dst (N:=2) rfl ?_);(try (refine gate_guard (by rfl) ?_;dsimp only));refine box_event ?hg (N:=2) ?hd (cs:= #[.string a0_0, .string a0_1, .bool a0_2, .slice A0_3 l0_3.length c0_3]) (t:=26) ?hr ?_;(case hd=>rfl);(case hg=>rfl);(case hr=>first|(go_simp;done)|(go_simp;rfl));intro gb405 hg w3 hbox hb;replace HO0_3:=A0_ (Kd.V_below (Kd.V_elderB HO0_3.out gb405 (Nat.le_of_eq hg.symm)) hb);have BK405:=A0_ (hbox);have GW405:=A0_ ((by rw [hg];exact (below_size HB.out):w.heap.size≤gb405));have GE405:=A0_ ((by rw [hg];exact (below_size HB.out):w.heap.size≤gb405));replace HB:=A0_ (below_step HB.out hb);clear hb hbox hg)|((with_reducible refine gate_dst (N:=4) rfl ?_);(try (refine gate_guard (by rfl) ?_;dsimp only));refine box_event ?hg (N:=4) ?hd (cs:= #[.string (⟨#[]⟩:ByteArray), .string (⟨#[]⟩:ByteArray), .bool false, .slice none 0 0]) (t:=26) ?hr ?_;(case hd=>rfl);(case hg=>rfl);(case hr=>first|(go_simp;done)|(go_simp;rfl));intro gb406 hg w4 hbox hb;replace HO0_3:=A0_ (Kd.V_below (Kd.V_elderB HO0_3.out gb406 (Nat.le_of_eq hg.symm)) hb);have BK406:=A0_ (hbox);have GW406:=A0_ ((by rw [hg];exact (below_size HB.out):w.heap.size≤gb406));have GE406:=A0_ ((by rw [hg];exact (below_size HB.out):w.heap.size≤gb406));replace HB:=A0_ (below_step HB.out hb);have NB405_406:=A0_ ((by rw [hg];exact Nat.ne_of_lt (blk_lt BK405.out):gb405≠gb406));have NB406_405:=A0_ ((by rw [hg];exact Nat.ne_of_gt (blk_lt BK405.out):gb406≠gb405));replace BK405:=A0_ (blk_below BK405.out hb);clear hb hbox hg))
 go_loopg [10] k (fun kq v10 w'=> ∃ (x10_1:Int) (x406000_1:ByteArray) (x406001_1:ByteArray) (x406002_1:Bool) (x406003_1:List (S26)) (x407000_1:ByteArray) (x407001_1:ByteArray) (x407002_1:Bool) (u406003:Value),v10= .int .i64 x10_1∧Aside0 (impl_at.l0 kq l1 (l1.length:Int) x10_1 x406000_1 x406001_1 x406002_1 x406003_1=some (r1,r2,r3,r4,r5))∧Aside0 (kq≤k)∧Aside0 (Kd.V k26 26 w' w.heap.size (fun k_=>(P0_3_ k_∨w.heap.size≤k_)∧k_≠gb405∧k_≠gb406) u406003 x406003_1)∧Aside0 (w'.heap[gb405]?= some (.cells #[.string x406000_1, .string x406001_1, .bool x406002_1,u406003] 26 (0,0)))∧Aside0 (w'.heap[gb406]?= some (.cells #[.string x407000_1, .string x407001_1, .bool x407002_1,(.slice none 0 0)] 26 (0,0)))∧Aside0 (Below w.heap.size w w'))
 case atStart=>exact ⟨(0),(a0_0),(a0_1),(a0_2),(l0_3),((⟨#[]⟩:ByteArray)),((⟨#[]⟩:ByteArray)),(false),(.slice A0_3 l0_3.length c0_3),(by first|rfl|(simp;done)|(simp [*];done)|(simp [bne];done)|(simp [bne, *];done)),H',⟨Nat.le_refl _⟩,⟨by (with_reducible repeat (first|apply Kd.V_alloc|apply Kd.V_drewN|apply Kd.V_drew));exact Kd.V_mono HO0_3.out (fun _ hk=>⟨hk.1.1,⟨hk.1.2,hk.2⟩⟩)⟩,⟨by (with_reducible repeat (first|refine blk_drewN ?_ _|refine blk_drew ?_|refine blk_alloc ?_ _));exact BK405.out⟩,⟨by (with_reducible repeat (first|refine blk_drewN ?_ _|refine blk_drew ?_|refine blk_alloc ?_ _));exact BK406.out⟩,⟨by repeat (first|(with_reducible first|exact HB.out|apply below_alloc|apply pw_below_drewN|apply below_drew1|refine below_set ?_ GE405.out|refine below_set ?_ GE406.out)|exact HB.out)⟩⟩
 case round=>
  clear H'
  try clear c1
  try clear p2
  try clear c4
  obtain ⟨x10_1,x406000_1,x406001_1,x406002_1,x406003_1,x407000_1,x407001_1,x407002_1,u406003,rfl,HA,HK1,HO_406003,BK405,BK406,HB⟩:=hrel
  cases gk with
  |zero=>exact absurd HA.out (by simp [impl_at.l0])
  |succ k1=>
   have H:=HA.out
   clear HA
   simp only [impl_at.l0] at H
   by_cases c5:x10_1 < (l1.length:Int)
   ·rw [if_pos c5] at H
    have c5b0:decide (x10_1 < (l1.length:Int))=true:=decide_eq_true c5
    clear c5
    by_cases c6:0≤x10_1
    ·rw [if_pos c6] at H
     have c6b0:decide (0≤x10_1)=true:=decide_eq_true c6
     clear c6
     by_cases c7:x10_1 < (l1.length:Int)
     ·rw [if_pos c7] at H
      have c7b0:decide (x10_1 < (l1.length:Int))=true:=decide_eq_true c7
      clear c7
      by_cases c8:(rd l1 x10_1) < 0
      ·rw [if_pos c8] at H
       have c8b0:decide ((rd l1 x10_1) < 0)=true:=decide_eq_true c8
       clear c8
       simp only [Option.some.injEq,Prod.mk.injEq] at H
       obtain ⟨rfl,rfl,rfl,rfl,rfl⟩:=H
       have p407:0≤(x10_1:Int):=of_decide_eq_true (by first|(with_reducible assumption)|assumption)
       have q407:x10_1 < (l1.length:Int):=of_decide_eq_true (by first|(with_reducible assumption)|assumption)
       obtain ⟨ad407,e407,hx407_0⟩:=Kd.at_int HR1.out x10_1 p407 q407
       cases e407
       replace hx407_0:=(HB.out.cell (World.block_lt_of_cell? w _ hx407_0)).trans hx407_0
       replace p407:=eq_true p407
       replace q407:=eq_true q407
       have hnb9:=NB406_405.out
       have hnc9:=NB405_406.out
       obtain ⟨hcz10_0,hcz10_1,hcz10_2,hcz10_3⟩:=bc4_ BK406.out
       obtain ⟨hfz10_0,hfz10_1,hfz10_2,hfz10_3⟩:=bf4_ BK406.out
       go_wp2
       refine bodyPost_ret (results_ct rfl _ _ gb406 26 #[.string (⟨#[]⟩:ByteArray), .string (⟨#[]⟩:ByteArray), .bool false, .slice none 0 0] (0,0) _ rfl (by (with_reducible repeat (first|refine blk_drewN ?_ _|refine blk_drew ?_|refine blk_alloc ?_ _));refine blk_put (cs:= #[.string (⟨#[]⟩:ByteArray), .string (⟨#[]⟩:ByteArray), .bool false, .slice none 0 0]) ?_ 3 _ rfl;(with_reducible repeat (first|refine blk_drewN ?_ _|refine blk_drew ?_|refine blk_alloc ?_ _));refine blk_put (cs:= #[.string (⟨#[]⟩:ByteArray), .string (⟨#[]⟩:ByteArray), .bool x407002_1, .slice none 0 0]) ?_ 2 _ rfl;(with_reducible repeat (first|refine blk_drewN ?_ _|refine blk_drew ?_|refine blk_alloc ?_ _));refine blk_put (cs:= #[.string (⟨#[]⟩:ByteArray), .string x407001_1, .bool x407002_1, .slice none 0 0]) ?_ 1 _ rfl;(with_reducible repeat (first|refine blk_drewN ?_ _|refine blk_drew ?_|refine blk_alloc ?_ _));refine blk_put (cs:= #[.string x407000_1, .string x407001_1, .bool x407002_1, .slice none 0 0]) ?_ 0 _ rfl;(with_reducible repeat (first|refine blk_drewN ?_ _|refine blk_drew ?_|refine blk_alloc ?_ _));exact BK406.out) Try.underlying26 rfl (by kernel_rfl)) rfl ?_
       exact ⟨_,by first|rfl|(simp [errW_none,errW_some] <;> rfl)|(simp [*,errW_none,errW_some] <;> rfl),(by first|exact Kd.V_nil _ _ _ _ _|exact by first|exact Kd.R_nil _ _ _ _ _|exact Kd.N_nil _ _ _ _ _|exact Kd.V_nil _ _ _ _ _|exact Kd.Q_nil _ _ _ _ _|exact Kd.S_nil _ _ _ _ _),by repeat (first|(with_reducible first|exact HB.out|apply below_alloc|apply pw_below_drewN|apply below_drew1|refine below_set ?_ GE405.out|refine below_set ?_ GE406.out)|exact HB.out)⟩
      ·rw [if_neg c8] at H
       have c8b0:decide ((rd l1 x10_1) < 0)=false:=decide_eq_false c8
       clear c8
       by_cases c11:(rd l1 x10_1) ≥ (x406003_1.length:Int)
       ·rw [if_pos c11] at H
        have c11b0:decide ((x406003_1.length:Int)≤(rd l1 x10_1))=true:=decide_eq_true c11
        clear c11
        simp only [Option.some.injEq,Prod.mk.injEq] at H
        obtain ⟨rfl,rfl,rfl,rfl,rfl⟩:=H
        have p407:0≤(x10_1:Int):=of_decide_eq_true (by first|(with_reducible assumption)|assumption)
        have q407:x10_1 < (l1.length:Int):=of_decide_eq_true (by first|(with_reducible assumption)|assumption)
        obtain ⟨ad407,e407,hx407_0⟩:=Kd.at_int HR1.out x10_1 p407 q407
        cases e407
        replace hx407_0:=(HB.out.cell (World.block_lt_of_cell? w _ hx407_0)).trans hx407_0
        replace p407:=eq_true p407
        replace q407:=eq_true q407
        have hnb12:=NB405_406.out
        have hnc12:=NB406_405.out
        obtain ⟨hcz13_0,hcz13_1,hcz13_2,hcz13_3⟩:=bc4_ BK405.out
        obtain ⟨hfz13_0,hfz13_1,hfz13_2,hfz13_3⟩:=bf4_ BK405.out
        obtain ⟨Ao14,co14,eo14⟩:=Kd.V_slice HO_406003.out
        subst eo14
        obtain ⟨hcz15_0,hcz15_1,hcz15_2,hcz15_3⟩:=bc4_ BK406.out
        obtain ⟨hfz15_0,hfz15_1,hfz15_2,hfz15_3⟩:=bf4_ BK406.out
        go_wp2
        refine bodyPost_ret (results_ct rfl _ _ gb406 26 #[.string (⟨#[]⟩:ByteArray), .string (⟨#[]⟩:ByteArray), .bool false, .slice none 0 0] (0,0) _ rfl (by (with_reducible repeat (first|refine blk_drewN ?_ _|refine blk_drew ?_|refine blk_alloc ?_ _));refine blk_put (cs:= #[.string (⟨#[]⟩:ByteArray), .string (⟨#[]⟩:ByteArray), .bool false, .slice none 0 0]) ?_ 3 _ rfl;(with_reducible repeat (first|refine blk_drewN ?_ _|refine blk_drew ?_|refine blk_alloc ?_ _));refine blk_put (cs:= #[.string (⟨#[]⟩:ByteArray), .string (⟨#[]⟩:ByteArray), .bool x407002_1, .slice none 0 0]) ?_ 2 _ rfl;(with_reducible repeat (first|refine blk_drewN ?_ _|refine blk_drew ?_|refine blk_alloc ?_ _));refine blk_put (cs:= #[.string (⟨#[]⟩:ByteArray), .string x407001_1, .bool x407002_1, .slice none 0 0]) ?_ 1 _ rfl;(with_reducible repeat (first|refine blk_drewN ?_ _|refine blk_drew ?_|refine blk_alloc ?_ _));refine blk_put (cs:= #[.string x407000_1, .string x407001_1, .bool x407002_1, .slice none 0 0]) ?_ 0 _ rfl;(with_reducible repeat (first|refine blk_drewN ?_ _|refine blk_drew ?_|refine blk_alloc ?_ _));exact BK406.out) Try.underlying26 rfl (by kernel_rfl)) rfl ?_
        exact ⟨_,by first|rfl|(simp [errW_none,errW_some] <;> rfl)|(simp [*,errW_none,errW_some] <;> rfl),(by first|exact Kd.V_nil _ _ _ _ _|exact by first|exact Kd.R_nil _ _ _ _ _|exact Kd.N_nil _ _ _ _ _|exact Kd.V_nil _ _ _ _ _|exact Kd.Q_nil _ _ _ _ _|exact Kd.S_nil _ _ _ _ _),by repeat (first|(with_reducible first|exact HB.out|apply below_alloc|apply pw_below_drewN|apply below_drew1|refine below_set ?_ GE405.out|refine below_set ?_ GE406.out)|exact HB.out)⟩
       ·rw [if_neg c11] at H
        have c11b0:decide ((x406003_1.length:Int)≤(rd l1 x10_1))=false:=decide_eq_false c11
        clear c11
        by_cases c16:0≤(rd l1 x10_1)
        ·rw [if_pos c16] at H
         have c16b0:decide (0≤(rd l1 x10_1))=true:=decide_eq_true c16
         clear c16
         by_cases c17:(rd l1 x10_1) < (x406003_1.length:Int)
         ·rw [if_pos c17] at H
          have c17b0:decide ((rd l1 x10_1) < (x406003_1.length:Int))=true:=decide_eq_true c17
          clear c17
          have H':=A0_ H
          clear H
          have p407:0≤(x10_1:Int):=of_decide_eq_true (by first|(with_reducible assumption)|assumption)
          have q407:x10_1 < (l1.length:Int):=of_decide_eq_true (by first|(with_reducible assumption)|assumption)
          obtain ⟨ad407,e407,hx407_0⟩:=Kd.at_int HR1.out x10_1 p407 q407
          cases e407
          replace hx407_0:=(HB.out.cell (World.block_lt_of_cell? w _ hx407_0)).trans hx407_0
          replace p407:=eq_true p407
          replace q407:=eq_true q407
          have hnb18:=NB405_406.out
          have hnc18:=NB406_405.out
          obtain ⟨hcz19_0,hcz19_1,hcz19_2,hcz19_3⟩:=bc4_ BK405.out
          obtain ⟨hfz19_0,hfz19_1,hfz19_2,hfz19_3⟩:=bf4_ BK405.out
          obtain ⟨Ao20,co20,eo20⟩:=Kd.V_slice HO_406003.out
          subst eo20
          have p408:0≤((rd l1 x10_1):Int):=of_decide_eq_true (by first|(with_reducible assumption)|assumption)
          have q408:(rd l1 x10_1) < (x406003_1.length:Int):=of_decide_eq_true (by first|(with_reducible assumption)|assumption)
          obtain ⟨ad408,A408_3,c408_3,e408,hx408_0,hx408_1,hx408_2,hx408_3,hl408_3,hi408_3⟩:=at_T26 (Kd.V_reads' HO_406003.out).2.2 (rd l1 x10_1) p408 q408
          cases e408
          obtain ⟨ce408,hce408,hMe408,hcc408⟩:=Kd.V_get HO_406003.out z26 (rd l1 x10_1) p408 (by first|exact q408|exact of_decide_eq_true (by first|(with_reducible assumption)|assumption)|(have e_:=(Kd.V_reads' HO_406003.out).1;omega))
          obtain ⟨ua408_3,uc408_3,rfl,ul408_3,ge408_3⟩:=k26_openF hMe408
          have hv408_3:=hcc408 3 _ rfl
          rw [add_field _ _ 3 (by omega)] at hv408_3
          replace hv408_3:=Option.some.inj (hv408_3.symm.trans hx408_3)
          injection hv408_3 with hva_ hvn_ hvc_
          rw [hva_] at ge408_3
          rw [hvc_] at ul408_3
          have HL408_3:=A0_ (show Kd.V k26 26 _ w.heap.size _ _ ((rd_T26 x406003_1 (rd l1 x10_1)).f3) from Kd.V_mk ul408_3 ge408_3)
          clear hva_ hvn_ hvc_ ge408_3 ul408_3
          clear hcc408 hce408
          have HR408_3:=A0_ hi408_3
          have HC408_3:=A0_ hl408_3
          clear hi408_3 hl408_3
          replace p408:=eq_true p408
          replace q408:=eq_true q408
          go_wp2
          go_roundg k1
          case measure=>have:=HK1.out;omega
          case rel=>exact ⟨(wrap64 (x10_1 + 1)),((rd_T26 x406003_1 (rd l1 x10_1)).f0),((rd_T26 x406003_1 (rd l1 x10_1)).f1),((rd_T26 x406003_1 (rd l1 x10_1)).f2),((rd_T26 x406003_1 (rd l1 x10_1)).f3),(x407000_1),(x407001_1),(x407002_1),(.slice A408_3 ((rd_T26 x406003_1 (rd l1 x10_1)).f3).length c408_3),(by first|rfl|(simp;done)|(simp [*];done)|(simp [bne];done)|(simp [bne, *];done)),H',⟨by have:=HK1.out;omega⟩,⟨by (with_reducible repeat (first|apply Kd.V_alloc|apply Kd.V_drewN|apply Kd.V_drew));exact Kd.V_mono (Kd.V_far (p:=⟨gb405,3,none⟩) (Kd.V_far (p:=⟨gb405,2,none⟩) (Kd.V_far (p:=⟨gb405,1,none⟩) (Kd.V_far (p:=⟨gb405,0,none⟩) (Kd.V_mono HL408_3.out (fun k_ hk=>(⟨hk,hk.2.1⟩:_∧k_≠gb405))) (fun _ hk=>hk.2) (.string ((rd_T26 x406003_1 (rd l1 x10_1)).f0))) (fun _ hk=>hk.2) (.string ((rd_T26 x406003_1 (rd l1 x10_1)).f1))) (fun _ hk=>hk.2) (.bool ((rd_T26 x406003_1 (rd l1 x10_1)).f2))) (fun _ hk=>hk.2) (.slice A408_3 ((rd_T26 x406003_1 (rd l1 x10_1)).f3).length c408_3)) (fun _ hk=>⟨hk.1.1,⟨hk.1.2.1,hk.1.2.2⟩⟩)⟩,⟨by (with_reducible repeat (first|refine blk_drewN ?_ _|refine blk_drew ?_|refine blk_alloc ?_ _));refine blk_put (cs:= #[.string ((rd_T26 x406003_1 (rd l1 x10_1)).f0), .string ((rd_T26 x406003_1 (rd l1 x10_1)).f1), .bool ((rd_T26 x406003_1 (rd l1 x10_1)).f2), .slice (some ad408) x406003_1.length co20]) ?_ 3 _ rfl;(with_reducible repeat (first|refine blk_drewN ?_ _|refine blk_drew ?_|refine blk_alloc ?_ _));refine blk_put (cs:= #[.string ((rd_T26 x406003_1 (rd l1 x10_1)).f0), .string ((rd_T26 x406003_1 (rd l1 x10_1)).f1), .bool x406002_1, .slice (some ad408) x406003_1.length co20]) ?_ 2 _ rfl;(with_reducible repeat (first|refine blk_drewN ?_ _|refine blk_drew ?_|refine blk_alloc ?_ _));refine blk_put (cs:= #[.string ((rd_T26 x406003_1 (rd l1 x10_1)).f0), .string x406001_1, .bool x406002_1, .slice (some ad408) x406003_1.length co20]) ?_ 1 _ rfl;(with_reducible repeat (first|refine blk_drewN ?_ _|refine blk_drew ?_|refine blk_alloc ?_ _));refine blk_put (cs:= #[.string x406000_1, .string x406001_1, .bool x406002_1, .slice (some ad408) x406003_1.length co20]) ?_ 0 _ rfl;(with_reducible repeat (first|refine blk_drewN ?_ _|refine blk_drew ?_|refine blk_alloc ?_ _));exact BK405.out⟩,⟨by (with_reducible repeat (first|refine blk_drewN ?_ _|refine blk_drew ?_|refine blk_alloc ?_ _));refine blk_far ?_ NB406_405.out _;(with_reducible repeat (first|refine blk_drewN ?_ _|refine blk_drew ?_|refine blk_alloc ?_ _));refine blk_far ?_ NB406_405.out _;(with_reducible repeat (first|refine blk_drewN ?_ _|refine blk_drew ?_|refine blk_alloc ?_ _));refine blk_far ?_ NB406_405.out _;(with_reducible repeat (first|refine blk_drewN ?_ _|refine blk_drew ?_|refine blk_alloc ?_ _));refine blk_far ?_ NB406_405.out _;(with_reducible repeat (first|refine blk_drewN ?_ _|refine blk_drew ?_|refine blk_alloc ?_ _));exact BK406.out⟩,⟨by repeat (first|(with_reducible first|exact HB.out|apply below_alloc|apply pw_below_drewN|apply below_drew1|refine below_set ?_ GE405.out|refine below_set ?_ GE406.out)|exact HB.out)⟩⟩
         ·rw [if_neg c17] at H
          exact absurd H (by simp)
        ·rw [if_neg c16] at H
         exact absurd H (by simp)
     ·rw [if_neg c7] at H
      exact absurd H (by simp)
    ·rw [if_neg c6] at H
     exact absurd H (by simp)
   ·rw [if_neg c5] at H
    have c5b0:decide (x10_1 < (l1.length:Int))=false:=decide_eq_false c5
    clear c5
    simp only [Option.some.injEq,Prod.mk.injEq] at H
    obtain ⟨rfl,rfl,rfl,rfl,rfl⟩:=H
    have hnb21:=NB405_406.out
    have hnc21:=NB406_405.out
    obtain ⟨hcz22_0,hcz22_1,hcz22_2,hcz22_3⟩:=bc4_ BK405.out
    obtain ⟨hfz22_0,hfz22_1,hfz22_2,hfz22_3⟩:=bf4_ BK405.out
    obtain ⟨hcz23_0,hcz23_1,hcz23_2,hcz23_3⟩:=bc4_ BK406.out
    obtain ⟨hfz23_0,hfz23_1,hfz23_2,hfz23_3⟩:=bf4_ BK406.out
    obtain ⟨Ao24,co24,eo24⟩:=Kd.V_slice HO_406003.out
    subst eo24
    go_wp2
    refine bodyPost_ret (results_ct rfl _ _ gb406 26 #[.string x406000_1, .string x406001_1, .bool x406002_1, .slice Ao24 x406003_1.length co24] (0,0) _ rfl (by (with_reducible repeat (first|refine blk_drewN ?_ _|refine blk_drew ?_|refine blk_alloc ?_ _));refine blk_put (cs:= #[.string x406000_1, .string x406001_1, .bool x406002_1, .slice none 0 0]) ?_ 3 _ rfl;(with_reducible repeat (first|refine blk_drewN ?_ _|refine blk_drew ?_|refine blk_alloc ?_ _));refine blk_put (cs:= #[.string x406000_1, .string x406001_1, .bool x407002_1, .slice none 0 0]) ?_ 2 _ rfl;(with_reducible repeat (first|refine blk_drewN ?_ _|refine blk_drew ?_|refine blk_alloc ?_ _));refine blk_put (cs:= #[.string x406000_1, .string x407001_1, .bool x407002_1, .slice none 0 0]) ?_ 1 _ rfl;(with_reducible repeat (first|refine blk_drewN ?_ _|refine blk_drew ?_|refine blk_alloc ?_ _));refine blk_put (cs:= #[.string x407000_1, .string x407001_1, .bool x407002_1, .slice none 0 0]) ?_ 0 _ rfl;(with_reducible repeat (first|refine blk_drewN ?_ _|refine blk_drew ?_|refine blk_alloc ?_ _));exact BK406.out) Try.underlying26 rfl (by kernel_rfl)) rfl ?_
    exact ⟨_,by first|rfl|(simp [errW_none,errW_some] <;> rfl)|(simp [*,errW_none,errW_some] <;> rfl),by (with_reducible repeat (first|apply Kd.V_alloc|apply Kd.V_drewN|apply Kd.V_drew));exact Kd.V_mono (Kd.V_far (p:=⟨gb406,3,none⟩) (Kd.V_far (p:=⟨gb406,2,none⟩) (Kd.V_far (p:=⟨gb406,1,none⟩) (Kd.V_far (p:=⟨gb406,0,none⟩) (Kd.V_mono HO_406003.out (fun k_ hk=>(⟨hk,hk.2.2⟩:_∧k_≠gb406))) (fun _ hk=>hk.2) (.string x406000_1)) (fun _ hk=>hk.2) (.string x406001_1)) (fun _ hk=>hk.2) (.bool x406002_1)) (fun _ hk=>hk.2) (.slice Ao24 x406003_1.length co24)) (fun _ hk=>hk.1.1),by repeat (first|(with_reducible first|exact HB.out|apply below_alloc|apply pw_below_drewN|apply below_drew1|refine below_set ?_ GE405.out|refine below_set ?_ GE406.out)|exact HB.out)⟩
end Go.Proofs.Ytakpkmkjhndpjaa.Q
end
section
namespace Go.Proofs.Ytakpkmkjhndpjaa.Q
open Go.RowKit Go.Proofs.YtakpkmkjhndpjaaW.PrintWords Go.Proofs.YtakpkmkjhndpjaaW.PrintLast Go.Proofs.YtakpkmkjhndpjaaW.PrintMore
attribute [local go_sem] max2_int min2_int max_two min_two max_three min_three max_four min_four
set_option linter.unusedVariables false
set_option linter.unusedSimpArgs false
mutual
def impl_copyTree.l0:Nat→List (S26)→Int→Int→ByteArray→ByteArray→Bool→List (S26)→Option (ByteArray × ByteArray × Bool × (List (S26)))
 |0,_,_,_,_,_,_,_=>none
 |k + 1,x14,x15,x16,x412000,x412001,x412002,x412003=>if x16 < x15 then (if 0≤x16 then (if x16 < (x14.length:Int) then ((impl_copyTree.f k ((rd_T26 x14 x16).f0) ((rd_T26 x14 x16).f1) ((rd_T26 x14 x16).f2) ((rd_T26 x14 x16).f3)).bind fun bt414=>(if x412003.length < 2199023255552 then (impl_copyTree.l0 k x14 x15 (wrap64 (x16 + 1)) x412000 x412001 x412002 (x412003 ++ [(⟨bt414.1,bt414.2.1,bt414.2.2.1,bt414.2.2.2⟩:S26)])) else (none))) else (none)) else (none)) else (some (x412000,x412001,x412002,x412003))
def impl_copyTree.f:Nat→ByteArray→ByteArray→Bool→List (S26)→Option (ByteArray × ByteArray × Bool × (List (S26)))
 |0,_,_,_,_=>none
 |k + 1,a0_0,a0_1,a0_2,l0_3=>impl_copyTree.l0 k l0_3 (l0_3.length:Int) 0 a0_0 a0_1 a0_2 ([]:List (S26))
end
def impl_copyTree.T5:Bool × List (List Nat × List Nat):=(true, [([], []),([0], [0]),([], []),([2], [2]),([3], [3]),([1,4,3], [1,4]),([0,1,2,3,4,5], []),([6,5,5,0,1,2,3,4,5], [5,6])])
def impl_copyTree.B5:List Nat:= [0,1,0,4,12,31,63,127]
theorem impl_copyTree.tab5:rtab .any (opsOf Try.f48 5)=impl_copyTree.T5:=by kernel_rfl
theorem impl_copyTree.bits5:waitsOk impl_copyTree.T5.2 impl_copyTree.B5=true:=by kernel_rfl
set_option maxHeartbeats 8000000 in
set_option maxRecDepth 100000 in
theorem impl_copyTree.calls (k:Nat): ∀ (a0_0:ByteArray) (a0_1:ByteArray) (a0_2:Bool) (A0_3:Option Addr) (c0_3:Nat) (l0_3:List (S26)) (r1:ByteArray) (r2:ByteArray) (r3:Bool) (r4:List (S26)) (w:World) (hr0_3:Kd.C k26 w A0_3 l0_3.length l0_3) (hc0_3:l0_3.length≤c0_3) (h:impl_copyTree.f k a0_0 a0_1 a0_2 l0_3=some (r1,r2,r3,r4)),
  Calls Try.prog 48 #[.agg #[.string a0_0, .string a0_1, .bool a0_2, .slice A0_3 l0_3.length c0_3]] w fun e w'=> ∃ v3_:Value,e= .returned (.agg #[.string r1, .string r2, .bool r3,v3_])∧Kd.R k26 26 w' w.heap.size (fun _=>True) v3_ r4∧Below w.heap.size w w':=by
 induction k using Nat.strongRecOn with
 |_ k ih=>
 intro a0_0 a0_1 a0_2 A0_3 c0_3 l0_3 r1 r2 r3 r4 w hr0_3 hc0_3 h
 cases k with
 |zero=>exact absurd h (by simp [impl_copyTree.f])
 |succ k=>
 simp only [impl_copyTree.f] at h
 have hu26:=Try.underlying26
 have HR0_3:=A0_ hr0_3
 have HC0_3:=A0_ hc0_3
 clear hr0_3 hc0_3
 have HB:=A0_ (Below.refl w.heap.size w)
 have H:(impl_copyTree.l0 k l0_3 (l0_3.length:Int) 0 a0_0 a0_1 a0_2 ([]:List (S26)))=some (r1,r2,r3,r4):=h
 clear h
 have H':=A0_ H
 clear H
 go_enter Try.func48,Try.ntmps48
 go_wp2_with (first|((with_reducible refine gate_dst (N:=1) rfl ?_);refine box_event ?hg (N:=1) ?hd (cs:= #[.string a0_0, .string a0_1, .bool a0_2, .slice A0_3 l0_3.length c0_3]) (t:=26) ?hr ?_;(case hd=>rfl);(case hg=>rfl);(case hr=>first|(go_simp;done)|(go_simp;rfl));intro gb409 hg w2 hbox hb;have BK409:=A0_ (hbox);have GW409:=A0_ ((by rw [hg];exact (below_size HB.out):w.heap.size≤gb409));have GE409:=A0_ ((by rw [hg];exact (below_size HB.out):w.heap.size≤gb409));replace HB:=A0_ (below_step HB.out hb);clear hb hbox hg)|((with_reducible refine gate_dst (N:=2) rfl ?_);refine box_event ?hg (N:=2) ?hd (cs:= #[.string (⟨#[]⟩:ByteArray), .string (⟨#[]⟩:ByteArray), .bool false, .slice none 0 0]) (t:=26) ?hr ?_;(case hd=>rfl);(case hg=>rfl);(case hr=>first|(go_simp;done)|(go_simp;rfl));intro gb410 hg w3 hbox hb;have BK410:=A0_ (hbox);have GW410:=A0_ ((by rw [hg];exact (below_size HB.out):w.heap.size≤gb410));have GE410:=A0_ ((by rw [hg];exact (below_size HB.out):w.heap.size≤gb410));replace HB:=A0_ (below_step HB.out hb);have NB409_410:=A0_ ((by rw [hg];exact Nat.ne_of_lt (blk_lt BK409.out):gb409≠gb410));have NB410_409:=A0_ ((by rw [hg];exact Nat.ne_of_gt (blk_lt BK409.out):gb410≠gb409));replace BK409:=A0_ (blk_below BK409.out hb);clear hb hbox hg;have hnb4:=NB409_410.out;have hnc4:=NB410_409.out;obtain ⟨hcz5_0,hcz5_1,hcz5_2,hcz5_3⟩:=bc4_ BK409.out;obtain ⟨hfz5_0,hfz5_1,hfz5_2,hfz5_3⟩:=bf4_ BK409.out)|((with_reducible refine gate_dst (N:=3) rfl ?_);refine box_event ?hg (N:=3) ?hd (cs:= #[.string (⟨#[]⟩:ByteArray), .string (⟨#[]⟩:ByteArray), .bool false, .slice none 0 0]) (t:=26) ?hr ?_;(case hd=>rfl);(case hg=>rfl);(case hr=>first|(go_simp;done)|(go_simp;rfl));intro gb411 hg w6 hbox hb;have BK411:=A0_ (hbox);have GW411:=A0_ ((by rw [hg];exact (below_size HB.out):w.heap.size≤gb411));have GE411:=A0_ ((by rw [hg];exact (below_size HB.out):w.heap.size≤gb411));replace HB:=A0_ (below_step HB.out hb);have NB409_411:=A0_ ((by rw [hg];exact Nat.ne_of_lt (blk_lt BK409.out):gb409≠gb411));have NB411_409:=A0_ ((by rw [hg];exact Nat.ne_of_gt (blk_lt BK409.out):gb411≠gb409));replace BK409:=A0_ (blk_below BK409.out hb);have NB410_411:=A0_ ((by rw [hg];exact Nat.ne_of_lt (blk_lt BK410.out):gb410≠gb411));have NB411_410:=A0_ ((by rw [hg];exact Nat.ne_of_gt (blk_lt BK410.out):gb411≠gb410));replace BK410:=A0_ (blk_below BK410.out hb);clear hb hbox hg;have hnb7:=NB411_409.out;have hnc7:=NB409_411.out;have hnb8:=NB411_410.out;have hnc8:=NB410_411.out;obtain ⟨hcz9_0,hcz9_1,hcz9_2,hcz9_3⟩:=bc4_ BK411.out;obtain ⟨hfz9_0,hfz9_1,hfz9_2,hfz9_3⟩:=bf4_ BK411.out;obtain ⟨hcz10_0,hcz10_1,hcz10_2,hcz10_3⟩:=bc4_ BK409.out;obtain ⟨hfz10_0,hfz10_1,hfz10_2,hfz10_3⟩:=bf4_ BK409.out))
 go_loopg [16] k (fun kq v16 w'=> ∃ (x16_1:Int) (x412003_1:List (S26)) (u412003:Value),v16= .int .i64 x16_1∧Aside0 (impl_copyTree.l0 kq l0_3 (l0_3.length:Int) x16_1 a0_0 a0_1 a0_2 x412003_1=some (r1,r2,r3,r4))∧Aside0 (kq≤k)∧Aside0 (Kd.R k26 26 w' w.heap.size (fun k_=>k_≠gb409∧k_≠gb410∧k_≠gb411) u412003 x412003_1)∧Aside0 (w'.heap[gb409]?= some (.cells #[.string a0_0, .string a0_1, .bool a0_2,(.slice A0_3 l0_3.length c0_3)] 26 (0,0)))∧Aside0 (w'.heap[gb410]?= some (.cells #[.string (⟨#[]⟩:ByteArray), .string (⟨#[]⟩:ByteArray), .bool false,(.slice none 0 0)] 26 (0,0)))∧Aside0 (w'.heap[gb411]?= some (.cells #[.string a0_0, .string a0_1, .bool a0_2,u412003] 26 (0,0)))∧Aside0 (Below w.heap.size w w'))
 case atStart=>exact ⟨(0),(([]:List (S26))),(.slice none 0 0),(by first|rfl|(simp;done)|(simp [*];done)|(simp [bne];done)|(simp [bne, *];done)),H',⟨Nat.le_refl _⟩,⟨by first|exact Kd.R_nil _ _ _ _ _|exact Kd.N_nil _ _ _ _ _|exact Kd.V_nil _ _ _ _ _|exact Kd.Q_nil _ _ _ _ _|exact Kd.S_nil _ _ _ _ _⟩,⟨by (with_reducible repeat (first|refine blk_drewN ?_ _|refine blk_drew ?_|refine blk_alloc ?_ _));refine blk_far ?_ NB409_411.out _;(with_reducible repeat (first|refine blk_drewN ?_ _|refine blk_drew ?_|refine blk_alloc ?_ _));refine blk_far ?_ NB409_411.out _;(with_reducible repeat (first|refine blk_drewN ?_ _|refine blk_drew ?_|refine blk_alloc ?_ _));refine blk_far ?_ NB409_411.out _;(with_reducible repeat (first|refine blk_drewN ?_ _|refine blk_drew ?_|refine blk_alloc ?_ _));refine blk_far ?_ NB409_411.out _;(with_reducible repeat (first|refine blk_drewN ?_ _|refine blk_drew ?_|refine blk_alloc ?_ _));exact BK409.out⟩,⟨by (with_reducible repeat (first|refine blk_drewN ?_ _|refine blk_drew ?_|refine blk_alloc ?_ _));refine blk_far ?_ NB410_411.out _;(with_reducible repeat (first|refine blk_drewN ?_ _|refine blk_drew ?_|refine blk_alloc ?_ _));refine blk_far ?_ NB410_411.out _;(with_reducible repeat (first|refine blk_drewN ?_ _|refine blk_drew ?_|refine blk_alloc ?_ _));refine blk_far ?_ NB410_411.out _;(with_reducible repeat (first|refine blk_drewN ?_ _|refine blk_drew ?_|refine blk_alloc ?_ _));refine blk_far ?_ NB410_411.out _;(with_reducible repeat (first|refine blk_drewN ?_ _|refine blk_drew ?_|refine blk_alloc ?_ _));exact BK410.out⟩,⟨by (with_reducible repeat (first|refine blk_drewN ?_ _|refine blk_drew ?_|refine blk_alloc ?_ _));refine blk_put (cs:= #[.string a0_0, .string a0_1, .bool a0_2, .slice none 0 0]) ?_ 3 _ rfl;(with_reducible repeat (first|refine blk_drewN ?_ _|refine blk_drew ?_|refine blk_alloc ?_ _));refine blk_put (cs:= #[.string a0_0, .string a0_1, .bool false, .slice none 0 0]) ?_ 2 _ rfl;(with_reducible repeat (first|refine blk_drewN ?_ _|refine blk_drew ?_|refine blk_alloc ?_ _));refine blk_put (cs:= #[.string a0_0, .string (⟨#[]⟩:ByteArray), .bool false, .slice none 0 0]) ?_ 1 _ rfl;(with_reducible repeat (first|refine blk_drewN ?_ _|refine blk_drew ?_|refine blk_alloc ?_ _));refine blk_put (cs:= #[.string (⟨#[]⟩:ByteArray), .string (⟨#[]⟩:ByteArray), .bool false, .slice none 0 0]) ?_ 0 _ rfl;(with_reducible repeat (first|refine blk_drewN ?_ _|refine blk_drew ?_|refine blk_alloc ?_ _));exact BK411.out⟩,⟨by repeat (first|(with_reducible first|exact HB.out|apply below_alloc|apply pw_below_drewN|apply below_drew1|refine below_set ?_ GE409.out|refine below_set ?_ GE410.out|refine below_set ?_ GE411.out)|exact HB.out)⟩⟩
 case round=>
  clear H'
  try clear p2
  try clear c4
  try clear c7
  try clear c8
  try clear hcz10_0
  try clear hcz10_1
  try clear hcz10_2
  try clear hcz10_3
  try clear hcz5_0
  try clear hcz5_1
  try clear hcz5_2
  try clear hcz5_3
  try clear hcz9_0
  try clear hcz9_1
  try clear hcz9_2
  try clear hcz9_3
  try clear hfz10_0
  try clear hfz10_1
  try clear hfz10_2
  try clear hfz10_3
  try clear hfz5_0
  try clear hfz5_1
  try clear hfz5_2
  try clear hfz5_3
  try clear hfz9_0
  try clear hfz9_1
  try clear hfz9_2
  try clear hfz9_3
  obtain ⟨x16_1,x412003_1,u412003,rfl,HA,HK1,HO_412003,BK409,BK410,BK411,HB⟩:=hrel
  cases gk with
  |zero=>exact absurd HA.out (by simp [impl_copyTree.l0])
  |succ k1=>
   have H:=HA.out
   clear HA
   simp only [impl_copyTree.l0] at H
   by_cases c11:x16_1 < (l0_3.length:Int)
   ·rw [if_pos c11] at H
    have c11b0:decide (x16_1 < (l0_3.length:Int))=true:=decide_eq_true c11
    clear c11
    by_cases c12:0≤x16_1
    ·rw [if_pos c12] at H
     have c12b0:decide (0≤x16_1)=true:=decide_eq_true c12
     clear c12
     by_cases c13:x16_1 < (l0_3.length:Int)
     ·rw [if_pos c13] at H
      have c13b0:decide (x16_1 < (l0_3.length:Int))=true:=decide_eq_true c13
      clear c13
      replace H:=Option.bind_eq_some_iff.mp H
      obtain ⟨⟨t414,t415,t416,t417⟩,A140,H⟩:=H
      replace H:(if x412003_1.length < 2199023255552 then (impl_copyTree.l0 k1 l0_3 (l0_3.length:Int) (wrap64 (x16_1 + 1)) a0_0 a0_1 a0_2 (x412003_1 ++ [(⟨t414,t415,t416,t417⟩:S26)])) else (none))=some (r1,r2,r3,r4):=H
      have A14:=A0_ A140
      clear A140
      by_cases c15:x412003_1.length < 2199023255552
      ·rw [if_pos c15] at H
       have LMc15:=A0_ c15
       clear c15
       obtain ⟨y420,hy420⟩: ∃ y_:List (S26),y_=(x412003_1 ++ [(⟨t414,t415,t416,t417⟩:S26)]):=⟨_,rfl⟩
       replace H:(impl_copyTree.l0 k1 l0_3 (l0_3.length:Int) (wrap64 (x16_1 + 1)) a0_0 a0_1 a0_2 y420)=some (r1,r2,r3,r4):=by first|(rw [hy420];with_reducible exact H)|(have H2_:=(Option.bind_some _ _).symm.trans H;rw [hy420];with_reducible exact H2_)|(have H2_:=(Option.bind_some _ _).symm.trans H;with_reducible exact H2_)|with_reducible exact H|(rw [hy420];exact H)|exact H
       have Ny420:=A0_ hy420
       clear hy420
       have H':=A0_ H
       clear H
       have p412:0≤(x16_1:Int):=of_decide_eq_true (by first|(with_reducible assumption)|assumption)
       have q412:x16_1 < (l0_3.length:Int):=of_decide_eq_true (by first|(with_reducible assumption)|assumption)
       obtain ⟨ad412,A412_3,c412_3,e412,hx412_0,hx412_1,hx412_2,hx412_3,hl412_3,hi412_3⟩:=at_T26 HR0_3.out x16_1 p412 q412
       have hk412_3:=hx412_3
       cases e412
       replace hx412_0:=(HB.out.cell (World.block_lt_of_cell? w _ hx412_0)).trans hx412_0
       replace hx412_1:=(HB.out.cell (World.block_lt_of_cell? w _ hx412_1)).trans hx412_1
       replace hx412_2:=(HB.out.cell (World.block_lt_of_cell? w _ hx412_2)).trans hx412_2
       replace hx412_3:=(HB.out.cell (World.block_lt_of_cell? w _ hx412_3)).trans hx412_3
       have HR412_3:=A0_ hi412_3
       have HC412_3:=A0_ hl412_3
       clear hi412_3 hl412_3
       replace p412:=eq_true p412
       replace q412:=eq_true q412
       try go_wp2_with (first|((with_reducible refine gate_dst (N:=5) rfl ?_);refine box_event ?hg (N:=5) ?hd (cs:= #[.string (⟨#[]⟩:ByteArray), .string (⟨#[]⟩:ByteArray), .bool false, .slice none 0 0]) (t:=26) ?hr ?_;(case hd=>rfl);(case hg=>rfl);(case hr=>first|(go_simp;done)|(go_simp;rfl));intro gb413 hg w16 hbox hb;replace HO_412003:=A0_ (Kd.R_below (Kd.R_elderB HO_412003.out gb413 (Nat.le_of_eq hg.symm)) hb);have BK413:=A0_ (hbox);have GW413:=A0_ ((by rw [hg];exact (below_size HB.out):w.heap.size≤gb413));have GE413:=A0_ ((by rw [hg];exact (below_size HB.out):w.heap.size≤gb413));replace HB:=A0_ (below_step HB.out hb);have NB409_413:=A0_ ((by rw [hg];exact Nat.ne_of_lt (blk_lt BK409.out):gb409≠gb413));have NB413_409:=A0_ ((by rw [hg];exact Nat.ne_of_gt (blk_lt BK409.out):gb413≠gb409));replace BK409:=A0_ (blk_below BK409.out hb);have NB410_413:=A0_ ((by rw [hg];exact Nat.ne_of_lt (blk_lt BK410.out):gb410≠gb413));have NB413_410:=A0_ ((by rw [hg];exact Nat.ne_of_gt (blk_lt BK410.out):gb413≠gb410));replace BK410:=A0_ (blk_below BK410.out hb);have NB411_413:=A0_ ((by rw [hg];exact Nat.ne_of_lt (blk_lt BK411.out):gb411≠gb413));have NB413_411:=A0_ ((by rw [hg];exact Nat.ne_of_gt (blk_lt BK411.out):gb413≠gb411));replace BK411:=A0_ (blk_below BK411.out hb);clear hb hbox hg;have hnb17:=NB413_409.out;have hnc17:=NB409_413.out;have hnb18:=NB413_410.out;have hnc18:=NB410_413.out;have hnb19:=NB413_411.out;have hnc19:=NB411_413.out;obtain ⟨hcz20_0,hcz20_1,hcz20_2,hcz20_3⟩:=bc4_ BK413.out;obtain ⟨hfz20_0,hfz20_1,hfz20_2,hfz20_3⟩:=bf4_ BK413.out))
       have n0_:Aside0 (Kd.R k26 26 ((((w16.setCell ⟨gb413,0,none⟩ (.string ((rd_T26 l0_3 x16_1).f0))).setCell ⟨gb413,1,none⟩ (.string ((rd_T26 l0_3 x16_1).f1))).setCell ⟨gb413,2,none⟩ (.bool ((rd_T26 l0_3 x16_1).f2))).setCell ⟨gb413,3,none⟩ (.slice A412_3 ((rd_T26 l0_3 x16_1).f3).length c412_3)) w.heap.size (fun k_=>k_≠gb409∧k_≠gb410∧k_≠gb411∧k_≠gb413) u412003 x412003_1):=⟨by (with_reducible repeat (first|apply Kd.R_alloc|apply Kd.R_drewN|apply Kd.R_drew));exact Kd.R_mono (Kd.R_far (p:=⟨gb413,3,none⟩) (Kd.R_far (p:=⟨gb413,2,none⟩) (Kd.R_far (p:=⟨gb413,1,none⟩) (Kd.R_far (p:=⟨gb413,0,none⟩) (Kd.R_mono HO_412003.out (fun k_ hk=>(⟨hk,hk.2⟩:_∧k_≠gb413))) (fun _ hk=>hk.2) (.string ((rd_T26 l0_3 x16_1).f0))) (fun _ hk=>hk.2) (.string ((rd_T26 l0_3 x16_1).f1))) (fun _ hk=>hk.2) (.bool ((rd_T26 l0_3 x16_1).f2))) (fun _ hk=>hk.2) (.slice A412_3 ((rd_T26 l0_3 x16_1).f3).length c412_3)) (fun _ hk=>⟨hk.1.1.1,⟨hk.1.1.2.1,⟨hk.1.1.2.2,hk.1.2⟩⟩⟩)⟩
       have n1_:Aside0 (((((w16.setCell ⟨gb413,0,none⟩ (.string ((rd_T26 l0_3 x16_1).f0))).setCell ⟨gb413,1,none⟩ (.string ((rd_T26 l0_3 x16_1).f1))).setCell ⟨gb413,2,none⟩ (.bool ((rd_T26 l0_3 x16_1).f2))).setCell ⟨gb413,3,none⟩ (.slice A412_3 ((rd_T26 l0_3 x16_1).f3).length c412_3)).heap[gb409]?= some (.cells #[.string a0_0, .string a0_1, .bool a0_2, .slice (some ad412) l0_3.length c0_3] 26 (0,0))):=⟨by (with_reducible repeat (first|refine blk_drewN ?_ _|refine blk_drew ?_|refine blk_alloc ?_ _));refine blk_far ?_ NB409_413.out _;(with_reducible repeat (first|refine blk_drewN ?_ _|refine blk_drew ?_|refine blk_alloc ?_ _));refine blk_far ?_ NB409_413.out _;(with_reducible repeat (first|refine blk_drewN ?_ _|refine blk_drew ?_|refine blk_alloc ?_ _));refine blk_far ?_ NB409_413.out _;(with_reducible repeat (first|refine blk_drewN ?_ _|refine blk_drew ?_|refine blk_alloc ?_ _));refine blk_far ?_ NB409_413.out _;(with_reducible repeat (first|refine blk_drewN ?_ _|refine blk_drew ?_|refine blk_alloc ?_ _));exact BK409.out⟩
       have n2_:Aside0 (((((w16.setCell ⟨gb413,0,none⟩ (.string ((rd_T26 l0_3 x16_1).f0))).setCell ⟨gb413,1,none⟩ (.string ((rd_T26 l0_3 x16_1).f1))).setCell ⟨gb413,2,none⟩ (.bool ((rd_T26 l0_3 x16_1).f2))).setCell ⟨gb413,3,none⟩ (.slice A412_3 ((rd_T26 l0_3 x16_1).f3).length c412_3)).heap[gb410]?= some (.cells #[.string (⟨#[]⟩:ByteArray), .string (⟨#[]⟩:ByteArray), .bool false, .slice none 0 0] 26 (0,0))):=⟨by (with_reducible repeat (first|refine blk_drewN ?_ _|refine blk_drew ?_|refine blk_alloc ?_ _));refine blk_far ?_ NB410_413.out _;(with_reducible repeat (first|refine blk_drewN ?_ _|refine blk_drew ?_|refine blk_alloc ?_ _));refine blk_far ?_ NB410_413.out _;(with_reducible repeat (first|refine blk_drewN ?_ _|refine blk_drew ?_|refine blk_alloc ?_ _));refine blk_far ?_ NB410_413.out _;(with_reducible repeat (first|refine blk_drewN ?_ _|refine blk_drew ?_|refine blk_alloc ?_ _));refine blk_far ?_ NB410_413.out _;(with_reducible repeat (first|refine blk_drewN ?_ _|refine blk_drew ?_|refine blk_alloc ?_ _));exact BK410.out⟩
       have n3_:Aside0 (((((w16.setCell ⟨gb413,0,none⟩ (.string ((rd_T26 l0_3 x16_1).f0))).setCell ⟨gb413,1,none⟩ (.string ((rd_T26 l0_3 x16_1).f1))).setCell ⟨gb413,2,none⟩ (.bool ((rd_T26 l0_3 x16_1).f2))).setCell ⟨gb413,3,none⟩ (.slice A412_3 ((rd_T26 l0_3 x16_1).f3).length c412_3)).heap[gb411]?= some (.cells #[.string a0_0, .string a0_1, .bool a0_2,u412003] 26 (0,0))):=⟨by (with_reducible repeat (first|refine blk_drewN ?_ _|refine blk_drew ?_|refine blk_alloc ?_ _));refine blk_far ?_ NB411_413.out _;(with_reducible repeat (first|refine blk_drewN ?_ _|refine blk_drew ?_|refine blk_alloc ?_ _));refine blk_far ?_ NB411_413.out _;(with_reducible repeat (first|refine blk_drewN ?_ _|refine blk_drew ?_|refine blk_alloc ?_ _));refine blk_far ?_ NB411_413.out _;(with_reducible repeat (first|refine blk_drewN ?_ _|refine blk_drew ?_|refine blk_alloc ?_ _));refine blk_far ?_ NB411_413.out _;(with_reducible repeat (first|refine blk_drewN ?_ _|refine blk_drew ?_|refine blk_alloc ?_ _));exact BK411.out⟩
       have n4_:Aside0 (((((w16.setCell ⟨gb413,0,none⟩ (.string ((rd_T26 l0_3 x16_1).f0))).setCell ⟨gb413,1,none⟩ (.string ((rd_T26 l0_3 x16_1).f1))).setCell ⟨gb413,2,none⟩ (.bool ((rd_T26 l0_3 x16_1).f2))).setCell ⟨gb413,3,none⟩ (.slice A412_3 ((rd_T26 l0_3 x16_1).f3).length c412_3)).heap[gb413]?= some (.cells #[.string ((rd_T26 l0_3 x16_1).f0), .string ((rd_T26 l0_3 x16_1).f1), .bool ((rd_T26 l0_3 x16_1).f2), .slice A412_3 ((rd_T26 l0_3 x16_1).f3).length c412_3] 26 (0,0))):=⟨by (with_reducible repeat (first|refine blk_drewN ?_ _|refine blk_drew ?_|refine blk_alloc ?_ _));refine blk_put (cs:= #[.string ((rd_T26 l0_3 x16_1).f0), .string ((rd_T26 l0_3 x16_1).f1), .bool ((rd_T26 l0_3 x16_1).f2), .slice none 0 0]) ?_ 3 _ rfl;(with_reducible repeat (first|refine blk_drewN ?_ _|refine blk_drew ?_|refine blk_alloc ?_ _));refine blk_put (cs:= #[.string ((rd_T26 l0_3 x16_1).f0), .string ((rd_T26 l0_3 x16_1).f1), .bool false, .slice none 0 0]) ?_ 2 _ rfl;(with_reducible repeat (first|refine blk_drewN ?_ _|refine blk_drew ?_|refine blk_alloc ?_ _));refine blk_put (cs:= #[.string ((rd_T26 l0_3 x16_1).f0), .string (⟨#[]⟩:ByteArray), .bool false, .slice none 0 0]) ?_ 1 _ rfl;(with_reducible repeat (first|refine blk_drewN ?_ _|refine blk_drew ?_|refine blk_alloc ?_ _));refine blk_put (cs:= #[.string (⟨#[]⟩:ByteArray), .string (⟨#[]⟩:ByteArray), .bool false, .slice none 0 0]) ?_ 0 _ rfl;(with_reducible repeat (first|refine blk_drewN ?_ _|refine blk_drew ?_|refine blk_alloc ?_ _));exact BK413.out⟩
       have n5_:Aside0 (Below w.heap.size w ((((w16.setCell ⟨gb413,0,none⟩ (.string ((rd_T26 l0_3 x16_1).f0))).setCell ⟨gb413,1,none⟩ (.string ((rd_T26 l0_3 x16_1).f1))).setCell ⟨gb413,2,none⟩ (.bool ((rd_T26 l0_3 x16_1).f2))).setCell ⟨gb413,3,none⟩ (.slice A412_3 ((rd_T26 l0_3 x16_1).f3).length c412_3))):=⟨by repeat (first|(with_reducible first|exact HB.out|apply below_alloc|apply pw_below_drewN|apply below_drew1|refine below_set ?_ GE409.out|refine below_set ?_ GE410.out|refine below_set ?_ GE411.out|refine below_set ?_ GE413.out)|exact HB.out)⟩
       (try clear HO_412003)
       (try clear BK409)
       (try clear BK410)
       (try clear BK411)
       (try clear BK413)
       (try clear HB)
       generalize ((((w16.setCell ⟨gb413,0,none⟩ (.string ((rd_T26 l0_3 x16_1).f0))).setCell ⟨gb413,1,none⟩ (.string ((rd_T26 l0_3 x16_1).f1))).setCell ⟨gb413,2,none⟩ (.bool ((rd_T26 l0_3 x16_1).f2))).setCell ⟨gb413,3,none⟩ (.slice A412_3 ((rd_T26 l0_3 x16_1).f3).length c412_3))=w21 at n0_ n1_ n2_ n3_ n4_ n5_ ⊢
       have HO_412003:=n0_
       have BK409:=n1_
       have BK410:=n2_
       have BK411:=n3_
       have BK413:=n4_
       have HB:=n5_
       clear n0_ n1_ n2_ n3_ n4_ n5_
       have n0_:=A0_ (Kd.R_drew HO_412003.out)
       have n1_:=A0_ (blk_drew BK409.out)
       have n2_:=A0_ (blk_drew BK410.out)
       have n3_:=A0_ (blk_drew BK411.out)
       have n4_:=A0_ (blk_drew BK413.out)
       have n5_:=A0_ (below_drew1 HB.out)
       clear HO_412003
       clear BK409
       clear BK410
       clear BK411
       clear BK413
       clear HB
       have HO_412003:=n0_
       have BK409:=n1_
       have BK410:=n2_
       have BK411:=n3_
       have BK413:=n4_
       have HB:=n5_
       clear n0_ n1_ n2_ n3_ n4_ n5_
       refine start_ (n:=8) (S:=fun w'=>w'.cell? ⟨gb411,0,none⟩=some (.string a0_0)∧w'.cell? ⟨gb411,1,none⟩=some (.string a0_1)∧w'.cell? ⟨gb411,2,none⟩=some (.bool a0_2)∧w'.cell? ⟨gb411,3,none⟩=some (u412003)∧w'.cell? ⟨gb413,0,none⟩=some (.string ((rd_T26 l0_3 x16_1).f0))∧w'.cell? ⟨gb413,1,none⟩=some (.string ((rd_T26 l0_3 x16_1).f1))∧w'.cell? ⟨gb413,2,none⟩=some (.bool ((rd_T26 l0_3 x16_1).f2))∧w'.cell? ⟨gb413,3,none⟩=some (.slice A412_3 ((rd_T26 l0_3 x16_1).f3).length c412_3)) (ds:= [7]) #[false,false,false,false,false,false,false,false] (by kernel_rfl) rfl rfl ⟨(blk_cell BK411.out 0).trans rfl,(blk_cell BK411.out 1).trans rfl,(blk_cell BK411.out 2).trans rfl,(blk_cell BK411.out 3).trans rfl,(blk_cell BK413.out 0).trans rfl,(blk_cell BK413.out 1).trans rfl,(blk_cell BK413.out 2).trans rfl,(blk_cell BK413.out 3).trans rfl⟩ (fun hHeld=> ?_);refine with_tabW impl_copyTree.tab5 impl_copyTree.bits5 (fun HT_ HW_=> ?_)
       generalize w21.drew=w22 at HO_412003 BK409 BK410 BK411 BK413 HB hHeld ⊢
       refine pure_ (i:=0) (N:=some 20) (v:= ?_) (a':= ?_) #[true,false,false,false,false,false,false,false] rfl rfl (any_of HT_.out (by kernel_rfl)) (fun _ _ _ h=>h) (Or.inl ⟨by rfl, ?_⟩) ?_ ?_
       rotate_left
       ·intro w'
        go_simp
        with_reducible rfl
       rotate_left
       ·simp only [Act.put,List.setIfInBounds_toArray,List.set_cons_zero,List.set_cons_succ,i64_w,i32_w]
        rfl
       refine take_ (i:=1) (N:=some 21) (v:= ?_) (a':= ?_) #[true,true,false,false,false,false,false,false] rfl rfl (take_ofW HT_.out HW_.out (by kernel_rfl)) (fun _ _ _ h=>h) (Or.inl ⟨by rfl, ?_⟩) hHeld ?_ ?_
       rotate_left
       ·rintro w' ⟨s0,s1,s2,s3,s4,s5,s6,s7⟩
        go_simp
        with_reducible rfl
       rotate_left
       ·simp only [Act.put,List.setIfInBounds_toArray,List.set_cons_zero,List.set_cons_succ,i64_w,i32_w]
        rfl
       refine take_ (i:=2) (N:=some 22) (v:= ?_) (a':= ?_) #[true,true,true,false,false,false,false,false] rfl rfl (take_ofW HT_.out HW_.out (by kernel_rfl)) (fun _ _ _ h=>h) (Or.inl ⟨by rfl, ?_⟩) hHeld ?_ ?_
       rotate_left
       ·rintro w' ⟨s0,s1,s2,s3,s4,s5,s6,s7⟩
        go_simp
        with_reducible rfl
       rotate_left
       ·simp only [Act.put,List.setIfInBounds_toArray,List.set_cons_zero,List.set_cons_succ,i64_w,i32_w]
        rfl
       refine one_ (i:=3) (N:=some 23) #[true,true,true,true,false,false,false,false] rfl rfl (one_of HT_.out (by kernel_rfl)) (by decide) (fun K hK=> ?_)
       refine goes_ Try.func48 (by kernel_rfl) rfl #[.agg #[.string ((rd_T26 l0_3 x16_1).f0), .string ((rd_T26 l0_3 x16_1).f1), .bool ((rd_T26 l0_3 x16_1).f2), .slice A412_3 ((rd_T26 l0_3 x16_1).f3).length c412_3]] (by rfl) rfl rfl (by (try simp only [List.map_toArray,List.map_cons,List.map_nil]);first|done|rfl|(simp only [List.length_drop,List.length_take];rfl)) ?_
       with_reducible refine (ih k1 (by have:=HK1.out;omega) ((rd_T26 l0_3 x16_1).f0) ((rd_T26 l0_3 x16_1).f1) ((rd_T26 l0_3 x16_1).f2) _ _ ((rd_T26 l0_3 x16_1).f3) t414 t415 t416 t417 _ ?side1 ?side2 A14.out).mono ?_
       (case side1=>repeat (first|exact (Kd.C_below HR412_3.out HB.out)|(with_reducible refine Kd.C_alloc ?_ _)|(with_reducible refine Kd.C_drewN ?_ _)|(with_reducible refine Kd.C_drew ?_)))
       (case side2=>exact HC412_3.out)
       rintro e w23 ⟨v418,rfl,ho0,hb⟩
       refine ⟨_,rfl, ?_⟩
       have n0_:=A0_ (Kd.R_elder' HO_412003.out (Kd.R_base ho0) hb)
       have n1_:=A0_ (Kd.R_lower (Kd.R_newB (Kd.R_newB (Kd.R_newB (Kd.R_newB (Kd.R_new' ho0 (Kd.R_lt HO_412003.out)) BK409.out) BK410.out) BK411.out) BK413.out) (below_size HB.out))
       have n2_:=A0_ (blk_below BK409.out hb)
       have n3_:=A0_ (blk_below BK410.out hb)
       have n4_:=A0_ (blk_below BK411.out hb)
       have n5_:=A0_ (blk_below BK413.out hb)
       have n6_:=A0_ (below_step HB.out hb)
       clear HO_412003
       clear BK409
       clear BK410
       clear BK411
       clear BK413
       clear HB
       have HO_412003:=n0_
       have HO419:=n1_
       have BK409:=n2_
       have BK410:=n3_
       have BK411:=n4_
       have BK413:=n5_
       have HB:=n6_
       clear n0_ n1_ n2_ n3_ n4_ n5_ n6_
       (try clear hb)
       (try clear hb2)
       (try clear hk)
       (try clear hi)
       (try clear ho0)
       obtain ⟨Ao25,co25,eo25⟩:=Kd.R_slice HO419.out
       (first|subst eo25|(injection eo25 with f1_ f2_ f3_;have f4_:=f1_.symm;have f5_:=f3_.symm;clear f1_ f2_ f3_;subst f4_;subst f5_))
       refine hK.out _ _ ⟨(blk_cell BK411.out 0).trans rfl,(blk_cell BK411.out 1).trans rfl,(blk_cell BK411.out 2).trans rfl,(blk_cell BK411.out 3).trans rfl,(blk_cell BK413.out 0).trans rfl,(blk_cell BK413.out 1).trans rfl,(blk_cell BK413.out 2).trans rfl,(blk_cell BK413.out 3).trans rfl⟩ (fun hHeld=> ?_)
       clear hK K
       refine norm_ (a':= ?_) ?_ ?_
       rotate_left
       ·show Act.put _ (some 23) _=_
        simp only [Act.put,List.setIfInBounds_toArray,List.set_cons_zero,List.set_cons_succ,i64_w,i32_w]
        rfl
       refine one_ (i:=4) (N:=some 24) #[true,true,true,true,true,false,false,false] rfl rfl (one_of HT_.out (by kernel_rfl)) (by decide) (fun K hK=> ?_)
       refine value_ (w1:= ?_) (v:= ?_) (by rfl) rfl ?_ ?_
       rotate_left 2
       ·go_simp
        constructor
        ·rfl
        ·rfl
       refine hK.out _ _ ⟨(blk_cell (blk_alloc BK411.out _) 0).trans rfl,(blk_cell (blk_alloc BK411.out _) 1).trans rfl,(blk_cell (blk_alloc BK411.out _) 2).trans rfl,(blk_cell (blk_alloc BK411.out _) 3).trans rfl,(blk_cell (blk_alloc BK413.out _) 0).trans rfl,(blk_cell (blk_alloc BK413.out _) 1).trans rfl,(blk_cell (blk_alloc BK413.out _) 2).trans rfl,(blk_cell (blk_alloc BK413.out _) 3).trans rfl⟩ (fun hHeld=> ?_)
       clear hK K
       refine norm_ (a':= ?_) ?_ ?_
       rotate_left
       ·show Act.put _ (some 24) _=_
        simp only [Act.put,List.setIfInBounds_toArray,List.set_cons_zero,List.set_cons_succ,i64_w,i32_w]
        rfl
       refine one_ (i:=5) (N:=some 25) #[true,true,true,true,true,true,false,false] rfl rfl (one_of HT_.out (by kernel_rfl)) (by decide) (fun K hK=> ?_)
       refine Kd.R_append_step k26 (w0:=w) w.heap.size (by rfl) (.tmp 21) (.tmp 24) 24 26 (.agg #[(.string ⟨#[]⟩),(.string ⟨#[]⟩),(.bool false),(.slice none 0 0)]) 64 rfl Try.underlying24 info26 rfl (by decide) (by omega) u412003 x412003_1 (⟨t414,t415,t416,t417⟩:S26) [.string t414, .string t415, .bool t416, .slice Ao25 t417.length co25] (fun k_=>k_≠gb409∧k_≠gb410∧k_≠gb411∧k_≠gb413) (fun k_=>((fun k_=>k_≠gb409∧k_≠gb410∧k_≠gb411∧k_≠gb413)) k_∧some k_≠(u412003:Value).ownBlock) rfl rfl ?aP (fun _ hk=>hk) ?aF ?aO ?aB ?aS ?aL ?_
       (case aP=>exact k26_mkM _ _ _ (⟨t414,t415,t416,t417⟩:S26) (Kd.R_mono (HO419.out) (fun k_ hk=>⟨⟨hk.1.1.1.2,⟨hk.1.1.2,⟨hk.1.2,hk.2⟩⟩⟩,hk.1.1.1.1.2⟩)))
       (case aB=>exact HB.out)
       (case aF=>exact (fun k_ hk=>⟨Kd.freshB (g:=gb409) (o:= .cells #[.string a0_0, .string a0_1, .bool a0_2, .slice (some ad412) l0_3.length c0_3] 26 (0,0)) BK409.out k_ hk,Kd.freshB (g:=gb410) (o:= .cells #[.string (⟨#[]⟩:ByteArray), .string (⟨#[]⟩:ByteArray), .bool false, .slice none 0 0] 26 (0,0)) BK410.out k_ hk,Kd.freshB (g:=gb411) (o:= .cells #[.string a0_0, .string a0_1, .bool a0_2,u412003] 26 (0,0)) BK411.out k_ hk,Kd.freshB (g:=gb413) (o:= .cells #[.string ((rd_T26 l0_3 x16_1).f0), .string ((rd_T26 l0_3 x16_1).f1), .bool ((rd_T26 l0_3 x16_1).f2), .slice A412_3 ((rd_T26 l0_3 x16_1).f3).length c412_3] 26 (0,0)) BK413.out k_ hk⟩))
       (case aO=>exact (Kd.R_mono HO_412003.out (fun _ hk=>⟨hk.1.1,⟨hk.1.2.1,⟨hk.1.2.2.1,hk.1.2.2.2⟩⟩⟩)))
       (case aS=>exact (below_size HB.out))
       (case aL=>have:=LMc15.out;omega)
       intro v421 w24 ho hb hg hat
       rw [← Ny420.out] at ho
       have n0_:=A0_ (blk_grown BK409.out hg (Kd.R_away HO_412003.out (fun _ hk=>hk.1.1)))
       have n1_:=A0_ (blk_grown BK410.out hg (Kd.R_away HO_412003.out (fun _ hk=>hk.1.2.1)))
       have n2_:=A0_ (blk_grown BK411.out hg (Kd.R_away HO_412003.out (fun _ hk=>hk.1.2.2.1)))
       have n3_:=A0_ (blk_grown BK413.out hg (Kd.R_away HO_412003.out (fun _ hk=>hk.1.2.2.2)))
       have n4_:=A0_ (hb)
       have n5_:=A0_ (ho)
       clear BK409
       clear BK410
       clear BK411
       clear BK413
       clear HB
       clear HO_412003
       clear HO419
       have BK409:=n0_
       have BK410:=n1_
       have BK411:=n2_
       have BK413:=n3_
       have HB:=n4_
       have HO422:=n5_
       clear n0_ n1_ n2_ n3_ n4_ n5_
       clear ho hb hg hat
       obtain ⟨Ao26,co26,eo26⟩:=Kd.R_slice HO422.out
       (first|subst eo26|(injection eo26 with f1_ f2_ f3_;have f4_:=f1_.symm;have f5_:=f3_.symm;clear f1_ f2_ f3_;subst f4_;subst f5_))
       refine hK.out _ _ ⟨(blk_cell BK411.out 0).trans rfl,(blk_cell BK411.out 1).trans rfl,(blk_cell BK411.out 2).trans rfl,(blk_cell BK411.out 3).trans rfl,(blk_cell BK413.out 0).trans rfl,(blk_cell BK413.out 1).trans rfl,(blk_cell BK413.out 2).trans rfl,(blk_cell BK413.out 3).trans rfl⟩ (fun hHeld=> ?_)
       clear hK K
       refine norm_ (a':= ?_) ?_ ?_
       rotate_left
       ·show Act.put _ (some 25) _=_
        simp only [Act.put,List.setIfInBounds_toArray,List.set_cons_zero,List.set_cons_succ,i64_w,i32_w]
        rfl
       refine pure_ (i:=6) (N:=some 26) (v:= ?_) (a':= ?_) #[true,true,true,true,true,true,true,false] rfl rfl (any_of HT_.out (by kernel_rfl)) (fun _ _ _ h=>h) (Or.inl ⟨by rfl, ?_⟩) ?_ ?_
       rotate_left
       ·intro w'
        go_simp
        with_reducible rfl
       rotate_left
       ·simp only [Act.put,List.setIfInBounds_toArray,List.set_cons_zero,List.set_cons_succ,i64_w,i32_w]
        rfl
       refine last_ (i:=7) (N:=none) #[true,true,true,true,true,true,true,true] rfl rfl (one_of HT_.out (by kernel_rfl)) (by decide) (fun K hK=> ?_)
       have hs27:w24.cell? ⟨gb411,3,none⟩=some (u412003):=(blk_cell BK411.out 3).trans rfl
       have hfs27:=blk_frozen BK411.out 3
       have hns27_0:=NB409_411.out
       have hns27_1:=NB410_411.out
       have hns27_3:=NB413_411.out
       have hms27_0:=NB411_409.out
       have hms27_1:=NB411_410.out
       have hms27_3:=NB411_413.out
       refine skip_ (w1:= ?_) (by rfl) rfl ?_ ?_
       rotate_left
       ·go_simp
        rfl
       refine hK.out _ _ ?_
       clear hK K
       refine done_ (done_of HT_.out (by kernel_rfl)) ?_
       try go_wp2
       go_roundg k1
       case measure=>have:=HK1.out;omega
       case rel=>exact ⟨(wrap64 (x16_1 + 1)),(y420),(.slice Ao26 y420.length co26),(by first|rfl|(simp;done)|(simp [*];done)|(simp [bne];done)|(simp [bne, *];done)),H',⟨by have:=HK1.out;omega⟩,⟨by (with_reducible repeat (first|apply Kd.R_alloc|apply Kd.R_drewN|apply Kd.R_drew));exact Kd.R_mono (Kd.R_far (p:=⟨gb411,3,none⟩) (Kd.R_mono HO422.out (fun k_ hk=>(⟨hk,hk.2.2.1⟩:_∧k_≠gb411))) (fun _ hk=>hk.2) (.slice Ao26 y420.length co26)) (fun _ hk=>⟨hk.1.1,⟨hk.1.2.1,hk.1.2.2.1⟩⟩)⟩,⟨by (with_reducible repeat (first|refine blk_drewN ?_ _|refine blk_drew ?_|refine blk_alloc ?_ _));refine blk_far ?_ NB409_411.out _;(with_reducible repeat (first|refine blk_drewN ?_ _|refine blk_drew ?_|refine blk_alloc ?_ _));exact BK409.out⟩,⟨by (with_reducible repeat (first|refine blk_drewN ?_ _|refine blk_drew ?_|refine blk_alloc ?_ _));refine blk_far ?_ NB410_411.out _;(with_reducible repeat (first|refine blk_drewN ?_ _|refine blk_drew ?_|refine blk_alloc ?_ _));exact BK410.out⟩,⟨by (with_reducible repeat (first|refine blk_drewN ?_ _|refine blk_drew ?_|refine blk_alloc ?_ _));refine blk_put (cs:= #[.string a0_0, .string a0_1, .bool a0_2,u412003]) ?_ 3 _ rfl;(with_reducible repeat (first|refine blk_drewN ?_ _|refine blk_drew ?_|refine blk_alloc ?_ _));exact BK411.out⟩,⟨by repeat (first|(with_reducible first|exact HB.out|apply below_alloc|apply pw_below_drewN|apply below_drew1|refine below_set ?_ GE409.out|refine below_set ?_ GE410.out|refine below_set ?_ GE411.out|refine below_set ?_ GE413.out)|exact HB.out)⟩⟩
      ·rw [if_neg c15] at H
       exact absurd H (by simp)
     ·rw [if_neg c13] at H
      exact absurd H (by simp)
    ·rw [if_neg c12] at H
     exact absurd H (by simp)
   ·rw [if_neg c11] at H
    have c11b0:decide (x16_1 < (l0_3.length:Int))=false:=decide_eq_false c11
    clear c11
    simp only [Option.some.injEq,Prod.mk.injEq] at H
    obtain ⟨rfl,rfl,rfl,rfl⟩:=H
    have hnb28:=NB411_409.out
    have hnc28:=NB409_411.out
    have hnb29:=NB411_410.out
    have hnc29:=NB410_411.out
    obtain ⟨hcz30_0,hcz30_1,hcz30_2,hcz30_3⟩:=bc4_ BK411.out
    obtain ⟨hfz30_0,hfz30_1,hfz30_2,hfz30_3⟩:=bf4_ BK411.out
    have hnb31:=NB410_409.out
    have hnc31:=NB409_410.out
    obtain ⟨hcz32_0,hcz32_1,hcz32_2,hcz32_3⟩:=bc4_ BK410.out
    obtain ⟨hfz32_0,hfz32_1,hfz32_2,hfz32_3⟩:=bf4_ BK410.out
    obtain ⟨Ao33,co33,eo33⟩:=Kd.R_slice HO_412003.out
    subst eo33
    go_wp2
    refine bodyPost_ret (results_cell_row rfl _ _ gb410 26 #[.string a0_0, .string a0_1, .bool a0_2, .slice Ao33 x412003_1.length co33] (0,0) _ rfl (by (with_reducible repeat (first|refine blk_drewN ?_ _|refine blk_drew ?_|refine blk_alloc ?_ _));refine blk_put (cs:= #[.string a0_0, .string a0_1, .bool a0_2, .slice none 0 0]) ?_ 3 _ rfl;(with_reducible repeat (first|refine blk_drewN ?_ _|refine blk_drew ?_|refine blk_alloc ?_ _));refine blk_put (cs:= #[.string a0_0, .string a0_1, .bool false, .slice none 0 0]) ?_ 2 _ rfl;(with_reducible repeat (first|refine blk_drewN ?_ _|refine blk_drew ?_|refine blk_alloc ?_ _));refine blk_put (cs:= #[.string a0_0, .string (⟨#[]⟩:ByteArray), .bool false, .slice none 0 0]) ?_ 1 _ rfl;(with_reducible repeat (first|refine blk_drewN ?_ _|refine blk_drew ?_|refine blk_alloc ?_ _));refine blk_put (cs:= #[.string (⟨#[]⟩:ByteArray), .string (⟨#[]⟩:ByteArray), .bool false, .slice none 0 0]) ?_ 0 _ rfl;(with_reducible repeat (first|refine blk_drewN ?_ _|refine blk_drew ?_|refine blk_alloc ?_ _));exact BK410.out) Try.underlying26 rfl (by kernel_rfl)) rfl ?_
    exact ⟨_,by first|rfl|(simp [errW_none,errW_some] <;> rfl)|(simp [*,errW_none,errW_some] <;> rfl),by (with_reducible repeat (first|apply Kd.R_alloc|apply Kd.R_drewN|apply Kd.R_drew));exact Kd.R_mono (Kd.R_far (p:=⟨gb410,3,none⟩) (Kd.R_far (p:=⟨gb410,2,none⟩) (Kd.R_far (p:=⟨gb410,1,none⟩) (Kd.R_far (p:=⟨gb410,0,none⟩) (Kd.R_mono HO_412003.out (fun k_ hk=>(⟨hk,hk.2.1⟩:_∧k_≠gb410))) (fun _ hk=>hk.2) (.string a0_0)) (fun _ hk=>hk.2) (.string a0_1)) (fun _ hk=>hk.2) (.bool a0_2)) (fun _ hk=>hk.2) (.slice Ao33 x412003_1.length co33)) (fun _ hk=>trivial),by repeat (first|(with_reducible first|exact HB.out|apply below_alloc|apply pw_below_drewN|apply below_drew1|refine below_set ?_ GE409.out|refine below_set ?_ GE410.out|refine below_set ?_ GE411.out)|exact HB.out)⟩
end Go.Proofs.Ytakpkmkjhndpjaa.Q
end
section
namespace Go.Proofs.Ytakpkmkjhndpjaa.Q
open Go.RowKit Go.Proofs.YtakpkmkjhndpjaaW.PrintWords Go.Proofs.YtakpkmkjhndpjaaW.PrintLast Go.Proofs.YtakpkmkjhndpjaaW.PrintMore
attribute [local go_sem] max2_int min2_int max_two min_two max_three min_three max_four min_four
set_option linter.unusedVariables false
set_option linter.unusedSimpArgs false
def impl_put.f:Nat→ByteArray→ByteArray→Bool→List (S26)→List Int→ByteArray→ByteArray→Bool→List (S26)→Option (ByteArray × ByteArray × Bool × (List (S26)))
 |0,_,_,_,_,_,_,_,_,_=>none
 |k + 1,a0_0,a0_1,a0_2,l0_3,l1,a2_0,a2_1,a2_2,l2_3=>if (l1.length:Int)=0 then ((impl_copyTree.f k a2_0 a2_1 a2_2 l2_3).bind fun bt426=>(some (bt426.1,bt426.2.1,bt426.2.2.1,bt426.2.2.2))) else ((impl_copyTree.f k a0_0 a0_1 a0_2 l0_3).bind fun bt432=>(if 0 < (l1.length:Int) then (if 0≤(rd l1 0) then (if (rd l1 0) < (l0_3.length:Int) then (if 1≤(l1.length:Int) then ((impl_put.f k ((rd_T26 l0_3 (rd l1 0)).f0) ((rd_T26 l0_3 (rd l1 0)).f1) ((rd_T26 l0_3 (rd l1 0)).f2) ((rd_T26 l0_3 (rd l1 0)).f3) (l1.drop 1) a2_0 a2_1 a2_2 l2_3).bind fun bt443=>(if (rd l1 0) < (bt432.2.2.2.length:Int) then (some (bt432.1,bt432.2.1,bt432.2.2.1,(bt432.2.2.2.set ((rd l1 0):Int).toNat (⟨bt443.1,bt443.2.1,bt443.2.2.1,bt443.2.2.2⟩:S26)))) else (none))) else (none)) else (none)) else (none)) else (none)))
def impl_put.T4:Bool × List (List Nat × List Nat):=(true, [([], []),([0], [0]),([], []),([2], [2]),([3], [3]),([], []),([5], [5]),([], []),([7], [7]),([8], [8]),([6,9], [6,9]),([10], [10]),([], []),([12], [12]),([], []),([11,13,14], [11,13,14]),([1,4,0,1,2,3,4,5,6,7,8,9,10,11,12,13,14,15], [1,4]),([16,15,15,0,1,2,3,4,5,6,7,8,9,10,11,12,13,14,15], [15,16])])
def impl_put.B4:List Nat:= [0,1,0,4,12,0,32,0,128,384,992,2016,0,4096,0,32736,65535,131071]
theorem impl_put.tab4:rtab .any (opsOf Try.f47 4)=impl_put.T4:=by kernel_rfl
theorem impl_put.bits4:waitsOk impl_put.T4.2 impl_put.B4=true:=by kernel_rfl
set_option maxHeartbeats 8000000 in
set_option maxRecDepth 100000 in
theorem impl_put.calls (k:Nat): ∀ (a0_0:ByteArray) (a0_1:ByteArray) (a0_2:Bool) (A0_3:Option Addr) (c0_3:Nat) (l0_3:List (S26)) (A1:Option Addr) (c1:Nat) (l1:List Int) (a2_0:ByteArray) (a2_1:ByteArray) (a2_2:Bool) (A2_3:Option Addr) (c2_3:Nat) (l2_3:List (S26)) (r1:ByteArray) (r2:ByteArray) (r3:Bool) (r4:List (S26)) (w:World) (hr0_3:Kd.C k26 w A0_3 l0_3.length l0_3) (hc0_3:l0_3.length≤c0_3) (hr1:Kd.C (Kd.int .i64) w A1 l1.length l1) (hc1:l1.length≤c1) (hr2_3:Kd.C k26 w A2_3 l2_3.length l2_3) (hc2_3:l2_3.length≤c2_3) (h:impl_put.f k a0_0 a0_1 a0_2 l0_3 l1 a2_0 a2_1 a2_2 l2_3=some (r1,r2,r3,r4)),
  Calls Try.prog 47 #[.agg #[.string a0_0, .string a0_1, .bool a0_2, .slice A0_3 l0_3.length c0_3], .slice A1 l1.length c1, .agg #[.string a2_0, .string a2_1, .bool a2_2, .slice A2_3 l2_3.length c2_3]] w fun e w'=> ∃ v3_:Value,e= .returned (.agg #[.string r1, .string r2, .bool r3,v3_])∧Kd.N k26 26 w' w.heap.size (fun k_=>(w.heap.size≤k_)) v3_ r4∧Below w.heap.size w w':=by
 induction k using Nat.strongRecOn with
 |_ k ih=>
 intro a0_0 a0_1 a0_2 A0_3 c0_3 l0_3 A1 c1 l1 a2_0 a2_1 a2_2 A2_3 c2_3 l2_3 r1 r2 r3 r4 w hr0_3 hc0_3 hr1 hc1 hr2_3 hc2_3 h
 cases k with
 |zero=>exact absurd h (by simp [impl_put.f])
 |succ k=>
 simp only [impl_put.f] at h
 have hu26:=Try.underlying26
 have HR0_3:=A0_ hr0_3
 have HC0_3:=A0_ hc0_3
 clear hr0_3 hc0_3
 have HR1:=A0_ hr1
 have HC1:=A0_ hc1
 clear hr1 hc1
 have HR2_3:=A0_ hr2_3
 have HC2_3:=A0_ hc2_3
 clear hr2_3 hc2_3
 have HB:=A0_ (Below.refl w.heap.size w)
 have H:(if (l1.length:Int)=0 then ((impl_copyTree.f k a2_0 a2_1 a2_2 l2_3).bind fun bt426=>(some (bt426.1,bt426.2.1,bt426.2.2.1,bt426.2.2.2))) else ((impl_copyTree.f k a0_0 a0_1 a0_2 l0_3).bind fun bt432=>(if 0 < (l1.length:Int) then (if 0≤(rd l1 0) then (if (rd l1 0) < (l0_3.length:Int) then (if 1≤(l1.length:Int) then ((impl_put.f k ((rd_T26 l0_3 (rd l1 0)).f0) ((rd_T26 l0_3 (rd l1 0)).f1) ((rd_T26 l0_3 (rd l1 0)).f2) ((rd_T26 l0_3 (rd l1 0)).f3) (l1.drop 1) a2_0 a2_1 a2_2 l2_3).bind fun bt443=>(if (rd l1 0) < (bt432.2.2.2.length:Int) then (some (bt432.1,bt432.2.1,bt432.2.2.1,(bt432.2.2.2.set ((rd l1 0):Int).toNat (⟨bt443.1,bt443.2.1,bt443.2.2.1,bt443.2.2.2⟩:S26)))) else (none))) else (none)) else (none)) else (none)) else (none))))=some (r1,r2,r3,r4):=h
 clear h
 by_cases c4:(l1.length:Int)=0
 ·rw [if_pos c4] at H
  have c4b0:((l1.length:Int) == 0)=true:=beq_iff_eq.mpr c4
  have c4b1:((l1.length:Int) != 0)=false:=bne_eq_false_iff_eq.mpr c4
  clear c4
  replace H:=Option.bind_eq_some_iff.mp H
  obtain ⟨⟨t426,t427,t428,t429⟩,A50,H⟩:=H
  replace H:(some (t426,t427,t428,t429))=some (r1,r2,r3,r4):=H
  have A5:=A0_ A50
  clear A50
  simp only [Option.some.injEq,Prod.mk.injEq] at H
  obtain ⟨rfl,rfl,rfl,rfl⟩:=H
  go_enter Try.func47,Try.ntmps47
  go_wp2_with (first|((with_reducible refine gate_dst (N:=3) rfl ?_);refine box_event ?hg (N:=3) ?hd (cs:= #[.string a0_0, .string a0_1, .bool a0_2, .slice A0_3 l0_3.length c0_3]) (t:=26) ?hr ?_;(case hd=>rfl);(case hg=>rfl);(case hr=>first|(go_simp;done)|(go_simp;rfl));intro gb423 hg w6 hbox hb;have BK423:=A0_ (hbox);have GW423:=A0_ ((by rw [hg];exact (below_size HB.out):w.heap.size≤gb423));have GE423:=A0_ ((by rw [hg];exact (below_size HB.out):w.heap.size≤gb423));replace HB:=A0_ (below_step HB.out hb);clear hb hbox hg)|((with_reducible refine gate_dst (N:=5) rfl ?_);refine box_event ?hg (N:=5) ?hd (cs:= #[.string a2_0, .string a2_1, .bool a2_2, .slice A2_3 l2_3.length c2_3]) (t:=26) ?hr ?_;(case hd=>rfl);(case hg=>rfl);(case hr=>first|(go_simp;done)|(go_simp;rfl));intro gb424 hg w7 hbox hb;have BK424:=A0_ (hbox);have GW424:=A0_ ((by rw [hg];exact (below_size HB.out):w.heap.size≤gb424));have GE424:=A0_ ((by rw [hg];exact (below_size HB.out):w.heap.size≤gb424));replace HB:=A0_ (below_step HB.out hb);have NB423_424:=A0_ ((by rw [hg];exact Nat.ne_of_lt (blk_lt BK423.out):gb423≠gb424));have NB424_423:=A0_ ((by rw [hg];exact Nat.ne_of_gt (blk_lt BK423.out):gb424≠gb423));replace BK423:=A0_ (blk_below BK423.out hb);clear hb hbox hg)|((with_reducible refine gate_dst (N:=6) rfl ?_);refine box_event ?hg (N:=6) ?hd (cs:= #[.string (⟨#[]⟩:ByteArray), .string (⟨#[]⟩:ByteArray), .bool false, .slice none 0 0]) (t:=26) ?hr ?_;(case hd=>rfl);(case hg=>rfl);(case hr=>first|(go_simp;done)|(go_simp;rfl));intro gb425 hg w8 hbox hb;have BK425:=A0_ (hbox);have GW425:=A0_ ((by rw [hg];exact (below_size HB.out):w.heap.size≤gb425));have GE425:=A0_ ((by rw [hg];exact (below_size HB.out):w.heap.size≤gb425));replace HB:=A0_ (below_step HB.out hb);have NB423_425:=A0_ ((by rw [hg];exact Nat.ne_of_lt (blk_lt BK423.out):gb423≠gb425));have NB425_423:=A0_ ((by rw [hg];exact Nat.ne_of_gt (blk_lt BK423.out):gb425≠gb423));replace BK423:=A0_ (blk_below BK423.out hb);have NB424_425:=A0_ ((by rw [hg];exact Nat.ne_of_lt (blk_lt BK424.out):gb424≠gb425));have NB425_424:=A0_ ((by rw [hg];exact Nat.ne_of_gt (blk_lt BK424.out):gb425≠gb424));replace BK424:=A0_ (blk_below BK424.out hb);clear hb hbox hg;have hnb9:=NB424_423.out;have hnc9:=NB423_424.out;have hnb10:=NB424_425.out;have hnc10:=NB425_424.out;obtain ⟨hcz11_0,hcz11_1,hcz11_2,hcz11_3⟩:=bc4_ BK424.out;obtain ⟨hfz11_0,hfz11_1,hfz11_2,hfz11_3⟩:=bf4_ BK424.out)|((with_reducible refine gate_callee (f:=48) rfl ?_);refine goesL_ (some 12) rfl rfl Try.func48 (by kernel_rfl) rfl #[.agg #[.string a2_0, .string a2_1, .bool a2_2, .slice A2_3 l2_3.length c2_3]] rfl (by (try simp only [List.map_toArray,List.map_cons,List.map_nil]);first|done|rfl|(simp only [List.length_drop,List.length_take];rfl)) ?_;(with_reducible refine (impl_copyTree.calls k a2_0 a2_1 a2_2 _ _ l2_3 t426 t427 t428 t429 _ ?side1 ?side2 A5.out).mono ?_);(case side1=>repeat (first|exact (Kd.C_below HR2_3.out HB.out)|(with_reducible refine Kd.C_alloc ?_ _)|(with_reducible refine Kd.C_drewN ?_ _)|(with_reducible refine Kd.C_drew ?_)));(case side2=>exact HC2_3.out);rintro e w12 ⟨v430,rfl,ho0,hb⟩;refine ⟨_,rfl, ?_⟩;have HO431:=A0_ (Kd.N_lower (Kd.N_mono (ok':=fun k_=>(w.heap.size≤k_)∧k_≠gb423∧k_≠gb424∧k_≠gb425) (Kd.R_N (Kd.R_bound ho0)) (fun k_ hk_=>⟨(Nat.le_trans (below_size HB.out) hk_.2.1),(Kd.freshB BK423.out k_ hk_.2.1),(Kd.freshB BK424.out k_ hk_.2.1),(Kd.freshB BK425.out k_ hk_.2.1)⟩)) (below_size HB.out));replace BK423:=A0_ (blk_below BK423.out hb);replace BK424:=A0_ (blk_below BK424.out hb);replace BK425:=A0_ (blk_below BK425.out hb);replace HB:=A0_ (below_step HB.out hb);(try clear hb);(try clear hb2);(try clear hk);(try clear hi);(try clear ho0);have hnb13:=NB425_423.out;have hnc13:=NB423_425.out;obtain ⟨hcz14_0,hcz14_1,hcz14_2,hcz14_3⟩:=bc4_ BK425.out;obtain ⟨hfz14_0,hfz14_1,hfz14_2,hfz14_3⟩:=bf4_ BK425.out;obtain ⟨Ao15,co15,eo15⟩:=Kd.N_slice HO431.out;subst eo15))
  refine bodyPost_ret (results_cell_row rfl _ _ gb425 26 #[.string t426, .string t427, .bool t428, .slice Ao15 t429.length co15] (0,0) _ rfl (by (with_reducible repeat (first|refine blk_drewN ?_ _|refine blk_drew ?_|refine blk_alloc ?_ _));refine blk_put (cs:= #[.string t426, .string t427, .bool t428, .slice none 0 0]) ?_ 3 _ rfl;(with_reducible repeat (first|refine blk_drewN ?_ _|refine blk_drew ?_|refine blk_alloc ?_ _));refine blk_put (cs:= #[.string t426, .string t427, .bool false, .slice none 0 0]) ?_ 2 _ rfl;(with_reducible repeat (first|refine blk_drewN ?_ _|refine blk_drew ?_|refine blk_alloc ?_ _));refine blk_put (cs:= #[.string t426, .string (⟨#[]⟩:ByteArray), .bool false, .slice none 0 0]) ?_ 1 _ rfl;(with_reducible repeat (first|refine blk_drewN ?_ _|refine blk_drew ?_|refine blk_alloc ?_ _));refine blk_put (cs:= #[.string (⟨#[]⟩:ByteArray), .string (⟨#[]⟩:ByteArray), .bool false, .slice none 0 0]) ?_ 0 _ rfl;(with_reducible repeat (first|refine blk_drewN ?_ _|refine blk_drew ?_|refine blk_alloc ?_ _));exact BK425.out) Try.underlying26 rfl (by kernel_rfl)) rfl ?_
  exact ⟨_,by first|rfl|(simp [errW_none,errW_some] <;> rfl)|(simp [*,errW_none,errW_some] <;> rfl),by (with_reducible repeat (first|apply Kd.N_alloc|apply Kd.N_drewN|apply Kd.N_drew));exact Kd.N_mono (Kd.N_far (p:=⟨gb425,3,none⟩) (Kd.N_far (p:=⟨gb425,2,none⟩) (Kd.N_far (p:=⟨gb425,1,none⟩) (Kd.N_far (p:=⟨gb425,0,none⟩) (Kd.N_mono HO431.out (fun k_ hk=>(⟨hk,hk.2.2.2⟩:_∧k_≠gb425))) (fun _ hk=>hk.2) (.string t426)) (fun _ hk=>hk.2) (.string t427)) (fun _ hk=>hk.2) (.bool t428)) (fun _ hk=>hk.2) (.slice Ao15 t429.length co15)) (fun _ hk=>hk.1.1),by repeat (first|(with_reducible first|exact HB.out|apply below_alloc|apply pw_below_drewN|apply below_drew1|refine below_set ?_ GE423.out|refine below_set ?_ GE424.out|refine below_set ?_ GE425.out)|exact HB.out)⟩
 ·rw [if_neg c4] at H
  have c4b0:((l1.length:Int) == 0)=false:=beq_eq_false_iff_ne.mpr c4
  have c4b1:((l1.length:Int) != 0)=true:=bne_iff_ne.mpr c4
  have c4b2: ¬ (l1= []):=fun h_=>c4 (by rw [h_];rfl)
  replace H:=Option.bind_eq_some_iff.mp H
  obtain ⟨⟨t432,t433,t434,t435⟩,A160,H⟩:=H
  replace H:(if 0 < (l1.length:Int) then (if 0≤(rd l1 0) then (if (rd l1 0) < (l0_3.length:Int) then (if 1≤(l1.length:Int) then ((impl_put.f k ((rd_T26 l0_3 (rd l1 0)).f0) ((rd_T26 l0_3 (rd l1 0)).f1) ((rd_T26 l0_3 (rd l1 0)).f2) ((rd_T26 l0_3 (rd l1 0)).f3) (l1.drop 1) a2_0 a2_1 a2_2 l2_3).bind fun bt443=>(if (rd l1 0) < (t435.length:Int) then (some (t432,t433,t434,(t435.set ((rd l1 0):Int).toNat (⟨bt443.1,bt443.2.1,bt443.2.2.1,bt443.2.2.2⟩:S26)))) else (none))) else (none)) else (none)) else (none)) else (none))=some (r1,r2,r3,r4):=H
  have A16:=A0_ A160
  clear A160
  by_cases c17:0 < (l1.length:Int)
  ·rw [if_pos c17] at H
   have c17b0:decide (0 < (l1.length:Int))=true:=decide_eq_true c17
   have c17b1:decide (0 < l1.length)=true:=decide_eq_true (by omega)
   clear c17
   by_cases c18:0≤(rd l1 0)
   ·rw [if_pos c18] at H
    have c18b0:decide (0≤(rd l1 0))=true:=decide_eq_true c18
    clear c18
    by_cases c19:(rd l1 0) < (l0_3.length:Int)
    ·rw [if_pos c19] at H
     have c19b0:decide ((rd l1 0) < (l0_3.length:Int))=true:=decide_eq_true c19
     clear c19
     by_cases c20:1≤(l1.length:Int)
     ·rw [if_pos c20] at H
      have c20b0:=eq_true c20
      have c20b1:decide (1≤(l1.length:Int))=true:=decide_eq_true c20
      clear c20
      replace H:=Option.bind_eq_some_iff.mp H
      obtain ⟨⟨t443,t444,t445,t446⟩,A210,H⟩:=H
      replace H:(if (rd l1 0) < (t435.length:Int) then (some (t432,t433,t434,(t435.set ((rd l1 0):Int).toNat (⟨t443,t444,t445,t446⟩:S26)))) else (none))=some (r1,r2,r3,r4):=H
      have A21:=A0_ A210
      clear A210
      by_cases c22:(rd l1 0) < (t435.length:Int)
      ·rw [if_pos c22] at H
       have c22b0:decide ((rd l1 0) < (t435.length:Int))=true:=decide_eq_true c22
       clear c22
       obtain ⟨y449,hy449⟩: ∃ y_:List (S26),y_=(t435.set ((rd l1 0):Int).toNat (⟨t443,t444,t445,t446⟩:S26)):=⟨_,rfl⟩
       replace H:(some (t432,t433,t434,y449))=some (r1,r2,r3,r4):=by first|(rw [hy449];with_reducible exact H)|(have H2_:=(Option.bind_some _ _).symm.trans H;rw [hy449];with_reducible exact H2_)|(have H2_:=(Option.bind_some _ _).symm.trans H;with_reducible exact H2_)|with_reducible exact H|(rw [hy449];exact H)|exact H
       have Ny449:=A0_ hy449
       clear hy449
       simp only [Option.some.injEq,Prod.mk.injEq] at H
       obtain ⟨rfl,rfl,rfl,rfl⟩:=H
       go_enter Try.func47,Try.ntmps47
       try go_wp2_with (first|((with_reducible refine gate_dst (N:=3) rfl ?_);refine box_event ?hg (N:=3) ?hd (cs:= #[.string a0_0, .string a0_1, .bool a0_2, .slice A0_3 l0_3.length c0_3]) (t:=26) ?hr ?_;(case hd=>rfl);(case hg=>rfl);(case hr=>first|(go_simp;done)|(go_simp;rfl));intro gb423 hg w24 hbox hb;have BK423:=A0_ (hbox);have GW423:=A0_ ((by rw [hg];exact (below_size HB.out):w.heap.size≤gb423));have GE423:=A0_ ((by rw [hg];exact (below_size HB.out):w.heap.size≤gb423));replace HB:=A0_ (below_step HB.out hb);clear hb hbox hg)|((with_reducible refine gate_dst (N:=5) rfl ?_);refine box_event ?hg (N:=5) ?hd (cs:= #[.string a2_0, .string a2_1, .bool a2_2, .slice A2_3 l2_3.length c2_3]) (t:=26) ?hr ?_;(case hd=>rfl);(case hg=>rfl);(case hr=>first|(go_simp;done)|(go_simp;rfl));intro gb424 hg w25 hbox hb;have BK424:=A0_ (hbox);have GW424:=A0_ ((by rw [hg];exact (below_size HB.out):w.heap.size≤gb424));have GE424:=A0_ ((by rw [hg];exact (below_size HB.out):w.heap.size≤gb424));replace HB:=A0_ (below_step HB.out hb);have NB423_424:=A0_ ((by rw [hg];exact Nat.ne_of_lt (blk_lt BK423.out):gb423≠gb424));have NB424_423:=A0_ ((by rw [hg];exact Nat.ne_of_gt (blk_lt BK423.out):gb424≠gb423));replace BK423:=A0_ (blk_below BK423.out hb);clear hb hbox hg)|((with_reducible refine gate_dst (N:=6) rfl ?_);refine box_event ?hg (N:=6) ?hd (cs:= #[.string (⟨#[]⟩:ByteArray), .string (⟨#[]⟩:ByteArray), .bool false, .slice none 0 0]) (t:=26) ?hr ?_;(case hd=>rfl);(case hg=>rfl);(case hr=>first|(go_simp;done)|(go_simp;rfl));intro gb425 hg w26 hbox hb;have BK425:=A0_ (hbox);have GW425:=A0_ ((by rw [hg];exact (below_size HB.out):w.heap.size≤gb425));have GE425:=A0_ ((by rw [hg];exact (below_size HB.out):w.heap.size≤gb425));replace HB:=A0_ (below_step HB.out hb);have NB423_425:=A0_ ((by rw [hg];exact Nat.ne_of_lt (blk_lt BK423.out):gb423≠gb425));have NB425_423:=A0_ ((by rw [hg];exact Nat.ne_of_gt (blk_lt BK423.out):gb425≠gb423));replace BK423:=A0_ (blk_below BK423.out hb);have NB424_425:=A0_ ((by rw [hg];exact Nat.ne_of_lt (blk_lt BK424.out):gb424≠gb425));have NB425_424:=A0_ ((by rw [hg];exact Nat.ne_of_gt (blk_lt BK424.out):gb425≠gb424));replace BK424:=A0_ (blk_below BK424.out hb);clear hb hbox hg;have hnb27:=NB423_424.out;have hnc27:=NB424_423.out;have hnb28:=NB423_425.out;have hnc28:=NB425_423.out;obtain ⟨hcz29_0,hcz29_1,hcz29_2,hcz29_3⟩:=bc4_ BK423.out;obtain ⟨hfz29_0,hfz29_1,hfz29_2,hfz29_3⟩:=bf4_ BK423.out)|((with_reducible refine gate_callee (f:=48) rfl ?_);refine goesL_ (some 14) rfl rfl Try.func48 (by kernel_rfl) rfl #[.agg #[.string a0_0, .string a0_1, .bool a0_2, .slice A0_3 l0_3.length c0_3]] rfl (by (try simp only [List.map_toArray,List.map_cons,List.map_nil]);first|done|rfl|(simp only [List.length_drop,List.length_take];rfl)) ?_;(with_reducible refine (impl_copyTree.calls k a0_0 a0_1 a0_2 _ _ l0_3 t432 t433 t434 t435 _ ?side1 ?side2 A16.out).mono ?_);(case side1=>repeat (first|exact (Kd.C_below HR0_3.out HB.out)|(with_reducible refine Kd.C_alloc ?_ _)|(with_reducible refine Kd.C_drewN ?_ _)|(with_reducible refine Kd.C_drew ?_)));(case side2=>exact HC0_3.out);rintro e w30 ⟨v436,rfl,ho0,hb⟩;refine ⟨_,rfl, ?_⟩;have HO437:=A0_ (Kd.N_lower (Kd.N_mono (ok':=fun k_=>(w.heap.size≤k_)∧k_≠gb423∧k_≠gb424∧k_≠gb425) (Kd.R_N (Kd.R_bound ho0)) (fun k_ hk_=>⟨(Nat.le_trans (below_size HB.out) hk_.2.1),(Kd.freshB BK423.out k_ hk_.2.1),(Kd.freshB BK424.out k_ hk_.2.1),(Kd.freshB BK425.out k_ hk_.2.1)⟩)) (below_size HB.out));replace BK423:=A0_ (blk_below BK423.out hb);replace BK424:=A0_ (blk_below BK424.out hb);replace BK425:=A0_ (blk_below BK425.out hb);replace HB:=A0_ (below_step HB.out hb);(try clear hb);(try clear hb2);(try clear hk);(try clear hi);(try clear ho0))|((with_reducible refine gate_dst (N:=7) rfl ?_);refine box_event ?hg (N:=7) ?hd (cs:= #[.string (⟨#[]⟩:ByteArray), .string (⟨#[]⟩:ByteArray), .bool false, .slice none 0 0]) (t:=26) ?hr ?_;(case hd=>rfl);(case hg=>rfl);(case hr=>first|(go_simp;done)|(go_simp;rfl));intro gb438 hg w31 hbox hb;replace HO437:=A0_ (Kd.N_below (Kd.N_elderB HO437.out gb438 (Nat.le_of_eq hg.symm)) hb);have BK438:=A0_ (hbox);have GW438:=A0_ ((by rw [hg];exact (below_size HB.out):w.heap.size≤gb438));have GE438:=A0_ ((by rw [hg];exact (below_size HB.out):w.heap.size≤gb438));replace HB:=A0_ (below_step HB.out hb);have NB423_438:=A0_ ((by rw [hg];exact Nat.ne_of_lt (blk_lt BK423.out):gb423≠gb438));have NB438_423:=A0_ ((by rw [hg];exact Nat.ne_of_gt (blk_lt BK423.out):gb438≠gb423));replace BK423:=A0_ (blk_below BK423.out hb);have NB424_438:=A0_ ((by rw [hg];exact Nat.ne_of_lt (blk_lt BK424.out):gb424≠gb438));have NB438_424:=A0_ ((by rw [hg];exact Nat.ne_of_gt (blk_lt BK424.out):gb438≠gb424));replace BK424:=A0_ (blk_below BK424.out hb);have NB425_438:=A0_ ((by rw [hg];exact Nat.ne_of_lt (blk_lt BK425.out):gb425≠gb438));have NB438_425:=A0_ ((by rw [hg];exact Nat.ne_of_gt (blk_lt BK425.out):gb438≠gb425));replace BK425:=A0_ (blk_below BK425.out hb);clear hb hbox hg;have hnb32:=NB438_423.out;have hnc32:=NB423_438.out;have hnb33:=NB438_424.out;have hnc33:=NB424_438.out;have hnb34:=NB438_425.out;have hnc34:=NB425_438.out;obtain ⟨hcz35_0,hcz35_1,hcz35_2,hcz35_3⟩:=bc4_ BK438.out;obtain ⟨hfz35_0,hfz35_1,hfz35_2,hfz35_3⟩:=bf4_ BK438.out;obtain ⟨Ao36,co36,eo36⟩:=Kd.N_slice HO437.out;subst eo36))
       have n0_:Aside0 (Kd.N k26 26 ((((w31.setCell ⟨gb438,0,none⟩ (.string t432)).setCell ⟨gb438,1,none⟩ (.string t433)).setCell ⟨gb438,2,none⟩ (.bool t434)).setCell ⟨gb438,3,none⟩ (.slice Ao36 t435.length co36)) w.heap.size (fun k_=>(w.heap.size≤k_)∧k_≠gb423∧k_≠gb424∧k_≠gb425∧k_≠gb438) (.slice Ao36 t435.length co36) t435):=⟨by (with_reducible repeat (first|apply Kd.N_alloc|apply Kd.N_drewN|apply Kd.N_drew));exact Kd.N_mono (Kd.N_far (p:=⟨gb438,3,none⟩) (Kd.N_far (p:=⟨gb438,2,none⟩) (Kd.N_far (p:=⟨gb438,1,none⟩) (Kd.N_far (p:=⟨gb438,0,none⟩) (Kd.N_mono HO437.out (fun k_ hk=>(⟨hk,hk.2⟩:_∧k_≠gb438))) (fun _ hk=>hk.2) (.string t432)) (fun _ hk=>hk.2) (.string t433)) (fun _ hk=>hk.2) (.bool t434)) (fun _ hk=>hk.2) (.slice Ao36 t435.length co36)) (fun _ hk=>⟨hk.1.1.1,⟨hk.1.1.2.1,⟨hk.1.1.2.2.1,⟨hk.1.1.2.2.2,hk.1.2⟩⟩⟩⟩)⟩
       have n1_:Aside0 (((((w31.setCell ⟨gb438,0,none⟩ (.string t432)).setCell ⟨gb438,1,none⟩ (.string t433)).setCell ⟨gb438,2,none⟩ (.bool t434)).setCell ⟨gb438,3,none⟩ (.slice Ao36 t435.length co36)).heap[gb423]?= some (.cells #[.string a0_0, .string a0_1, .bool a0_2, .slice A0_3 l0_3.length c0_3] 26 (0,0))):=⟨by (with_reducible repeat (first|refine blk_drewN ?_ _|refine blk_drew ?_|refine blk_alloc ?_ _));refine blk_far ?_ NB423_438.out _;(with_reducible repeat (first|refine blk_drewN ?_ _|refine blk_drew ?_|refine blk_alloc ?_ _));refine blk_far ?_ NB423_438.out _;(with_reducible repeat (first|refine blk_drewN ?_ _|refine blk_drew ?_|refine blk_alloc ?_ _));refine blk_far ?_ NB423_438.out _;(with_reducible repeat (first|refine blk_drewN ?_ _|refine blk_drew ?_|refine blk_alloc ?_ _));refine blk_far ?_ NB423_438.out _;(with_reducible repeat (first|refine blk_drewN ?_ _|refine blk_drew ?_|refine blk_alloc ?_ _));exact BK423.out⟩
       have n2_:Aside0 (((((w31.setCell ⟨gb438,0,none⟩ (.string t432)).setCell ⟨gb438,1,none⟩ (.string t433)).setCell ⟨gb438,2,none⟩ (.bool t434)).setCell ⟨gb438,3,none⟩ (.slice Ao36 t435.length co36)).heap[gb424]?= some (.cells #[.string a2_0, .string a2_1, .bool a2_2, .slice A2_3 l2_3.length c2_3] 26 (0,0))):=⟨by (with_reducible repeat (first|refine blk_drewN ?_ _|refine blk_drew ?_|refine blk_alloc ?_ _));refine blk_far ?_ NB424_438.out _;(with_reducible repeat (first|refine blk_drewN ?_ _|refine blk_drew ?_|refine blk_alloc ?_ _));refine blk_far ?_ NB424_438.out _;(with_reducible repeat (first|refine blk_drewN ?_ _|refine blk_drew ?_|refine blk_alloc ?_ _));refine blk_far ?_ NB424_438.out _;(with_reducible repeat (first|refine blk_drewN ?_ _|refine blk_drew ?_|refine blk_alloc ?_ _));refine blk_far ?_ NB424_438.out _;(with_reducible repeat (first|refine blk_drewN ?_ _|refine blk_drew ?_|refine blk_alloc ?_ _));exact BK424.out⟩
       have n3_:Aside0 (((((w31.setCell ⟨gb438,0,none⟩ (.string t432)).setCell ⟨gb438,1,none⟩ (.string t433)).setCell ⟨gb438,2,none⟩ (.bool t434)).setCell ⟨gb438,3,none⟩ (.slice Ao36 t435.length co36)).heap[gb425]?= some (.cells #[.string (⟨#[]⟩:ByteArray), .string (⟨#[]⟩:ByteArray), .bool false, .slice none 0 0] 26 (0,0))):=⟨by (with_reducible repeat (first|refine blk_drewN ?_ _|refine blk_drew ?_|refine blk_alloc ?_ _));refine blk_far ?_ NB425_438.out _;(with_reducible repeat (first|refine blk_drewN ?_ _|refine blk_drew ?_|refine blk_alloc ?_ _));refine blk_far ?_ NB425_438.out _;(with_reducible repeat (first|refine blk_drewN ?_ _|refine blk_drew ?_|refine blk_alloc ?_ _));refine blk_far ?_ NB425_438.out _;(with_reducible repeat (first|refine blk_drewN ?_ _|refine blk_drew ?_|refine blk_alloc ?_ _));refine blk_far ?_ NB425_438.out _;(with_reducible repeat (first|refine blk_drewN ?_ _|refine blk_drew ?_|refine blk_alloc ?_ _));exact BK425.out⟩
       have n4_:Aside0 (((((w31.setCell ⟨gb438,0,none⟩ (.string t432)).setCell ⟨gb438,1,none⟩ (.string t433)).setCell ⟨gb438,2,none⟩ (.bool t434)).setCell ⟨gb438,3,none⟩ (.slice Ao36 t435.length co36)).heap[gb438]?= some (.cells #[.string t432, .string t433, .bool t434, .slice Ao36 t435.length co36] 26 (0,0))):=⟨by (with_reducible repeat (first|refine blk_drewN ?_ _|refine blk_drew ?_|refine blk_alloc ?_ _));refine blk_put (cs:= #[.string t432, .string t433, .bool t434, .slice none 0 0]) ?_ 3 _ rfl;(with_reducible repeat (first|refine blk_drewN ?_ _|refine blk_drew ?_|refine blk_alloc ?_ _));refine blk_put (cs:= #[.string t432, .string t433, .bool false, .slice none 0 0]) ?_ 2 _ rfl;(with_reducible repeat (first|refine blk_drewN ?_ _|refine blk_drew ?_|refine blk_alloc ?_ _));refine blk_put (cs:= #[.string t432, .string (⟨#[]⟩:ByteArray), .bool false, .slice none 0 0]) ?_ 1 _ rfl;(with_reducible repeat (first|refine blk_drewN ?_ _|refine blk_drew ?_|refine blk_alloc ?_ _));refine blk_put (cs:= #[.string (⟨#[]⟩:ByteArray), .string (⟨#[]⟩:ByteArray), .bool false, .slice none 0 0]) ?_ 0 _ rfl;(with_reducible repeat (first|refine blk_drewN ?_ _|refine blk_drew ?_|refine blk_alloc ?_ _));exact BK438.out⟩
       have n5_:Aside0 (Below w.heap.size w ((((w31.setCell ⟨gb438,0,none⟩ (.string t432)).setCell ⟨gb438,1,none⟩ (.string t433)).setCell ⟨gb438,2,none⟩ (.bool t434)).setCell ⟨gb438,3,none⟩ (.slice Ao36 t435.length co36))):=⟨by repeat (first|(with_reducible first|exact HB.out|apply below_alloc|apply pw_below_drewN|apply below_drew1|refine below_set ?_ GE423.out|refine below_set ?_ GE424.out|refine below_set ?_ GE425.out|refine below_set ?_ GE438.out)|exact HB.out)⟩
       (try clear HO437)
       (try clear BK423)
       (try clear BK424)
       (try clear BK425)
       (try clear BK438)
       (try clear HB)
       generalize ((((w31.setCell ⟨gb438,0,none⟩ (.string t432)).setCell ⟨gb438,1,none⟩ (.string t433)).setCell ⟨gb438,2,none⟩ (.bool t434)).setCell ⟨gb438,3,none⟩ (.slice Ao36 t435.length co36))=w37 at n0_ n1_ n2_ n3_ n4_ n5_ ⊢
       have HO437:=n0_
       have BK423:=n1_
       have BK424:=n2_
       have BK425:=n3_
       have BK438:=n4_
       have HB:=n5_
       clear n0_ n1_ n2_ n3_ n4_ n5_
       have n0_:=A0_ (Kd.N_drew HO437.out)
       have n1_:=A0_ (blk_drew BK423.out)
       have n2_:=A0_ (blk_drew BK424.out)
       have n3_:=A0_ (blk_drew BK425.out)
       have n4_:=A0_ (blk_drew BK438.out)
       have n5_:=A0_ (below_drew1 HB.out)
       clear HO437
       clear BK423
       clear BK424
       clear BK425
       clear BK438
       clear HB
       have HO437:=n0_
       have BK423:=n1_
       have BK424:=n2_
       have BK425:=n3_
       have BK438:=n4_
       have HB:=n5_
       clear n0_ n1_ n2_ n3_ n4_ n5_
       have p439:0≤(0:Int):=(by omega)
       have q439:0 < (l1.length:Int):=of_decide_eq_true (by first|(with_reducible assumption)|assumption)
       obtain ⟨ad439,e439,hx439_0⟩:=Kd.at_int HR1.out 0 p439 q439
       have hw439_0:=hx439_0
       (try rw [show ((0:Int)).toNat=0 from rfl] at hw439_0)
       (try rw [show 0 * 1=0 from rfl] at hw439_0)
       (try rw [Addr.add_zero'] at hw439_0)
       cases e439
       have qi439:(0 < l1.length)=True:=eq_true (by omega)
       (try rw [show ((0:Int)).toNat=0 from rfl] at hx439_0)
       (try rw [Addr.add_zero'] at hx439_0)
       replace hx439_0:=(HB.out.cell (World.block_lt_of_cell? w _ hx439_0)).trans hx439_0
       replace p439:=eq_true p439
       replace q439:=eq_true q439
       have p440:0≤(0:Int):=(by omega)
       have q440:0 < (l1.length:Int):=of_decide_eq_true (by first|(with_reducible assumption)|assumption)
       obtain ⟨ad440,e440,hx440_0⟩:=Kd.at_int HR1.out 0 p440 q440
       have hw440_0:=hx440_0
       (try rw [show ((0:Int)).toNat=0 from rfl] at hw440_0)
       (try rw [show 0 * 1=0 from rfl] at hw440_0)
       (try rw [Addr.add_zero'] at hw440_0)
       obtain rfl:ad439=ad440:=(by injection e440)
       have qi440:(0 < l1.length)=True:=eq_true (by omega)
       (try rw [show ((0:Int)).toNat=0 from rfl] at hx440_0)
       (try rw [Addr.add_zero'] at hx440_0)
       replace hx440_0:=(HB.out.cell (World.block_lt_of_cell? w _ hx440_0)).trans hx440_0
       replace p440:=eq_true p440
       replace q440:=eq_true q440
       have p441:0≤((rd l1 0):Int):=of_decide_eq_true (by first|(with_reducible assumption)|assumption)
       have q441:(rd l1 0) < (l0_3.length:Int):=of_decide_eq_true (by first|(with_reducible assumption)|assumption)
       obtain ⟨ad441,A441_3,c441_3,e441,hx441_0,hx441_1,hx441_2,hx441_3,hl441_3,hi441_3⟩:=at_T26 HR0_3.out (rd l1 0) p441 q441
       have hw441_3:=hx441_3
       have hw441_2:=hx441_2
       have hw441_1:=hx441_1
       have hw441_0:=hx441_0
       have hk441_3:=hx441_3
       cases e441
       replace hx441_0:=(HB.out.cell (World.block_lt_of_cell? w _ hx441_0)).trans hx441_0
       replace hx441_1:=(HB.out.cell (World.block_lt_of_cell? w _ hx441_1)).trans hx441_1
       replace hx441_2:=(HB.out.cell (World.block_lt_of_cell? w _ hx441_2)).trans hx441_2
       replace hx441_3:=(HB.out.cell (World.block_lt_of_cell? w _ hx441_3)).trans hx441_3
       have HR441_3:=A0_ hi441_3
       have HC441_3:=A0_ hl441_3
       clear hi441_3 hl441_3
       replace p441:=eq_true p441
       replace q441:=eq_true q441
       obtain ⟨i039,hi039,_,hsz39,_⟩:=info_parts info3
       obtain ⟨A39,hcut39,hA39,hC39⟩:=print_drop_of (P:=Try.prog) (Value.int .i64) 0 27 3 .i64 Try.underlying27 hi039 hsz39 (some ad439) c1 l1 1 (by omega) (of_decide_eq_true (by first|(with_reducible assumption)|assumption)) HC1.out
       have HR442:=A0_ (Kd.C_of_reads (h1:=fun _=>rfl) (hA39 _ (Kd.reads_of_C HR1.out)))
       have HC442:=A0_ hC39
       clear hA39 hC39 hi039 hsz39
       refine start_ (n:=18) (S:=fun w'=>w'.cell? ⟨gb438,0,none⟩=some (.string t432)∧w'.cell? ⟨gb438,1,none⟩=some (.string t433)∧w'.cell? ⟨gb438,2,none⟩=some (.bool t434)∧w'.cell? ⟨gb438,3,none⟩=some (.slice Ao36 t435.length co36)∧w'.cell? ⟨gb423,0,none⟩=some (.string a0_0)∧w'.cell? ⟨gb423,1,none⟩=some (.string a0_1)∧w'.cell? ⟨gb423,2,none⟩=some (.bool a0_2)∧w'.cell? ⟨gb423,3,none⟩=some (.slice (some ad441) l0_3.length c0_3)∧w'.cell? ⟨gb424,0,none⟩=some (.string a2_0)∧w'.cell? ⟨gb424,1,none⟩=some (.string a2_1)∧w'.cell? ⟨gb424,2,none⟩=some (.bool a2_2)∧w'.cell? ⟨gb424,3,none⟩=some (.slice A2_3 l2_3.length c2_3)∧w'.cell? ad439=some (.int .i64 (rd l1 0))∧w'.cell? ad439=some (.int .i64 (rd l1 0))∧w'.cell? (ad441.add (((rd l1 0)).toNat * 4))=some (.string ((rd_T26 l0_3 (rd l1 0)).f0))∧w'.cell? ⟨(ad441.add (((rd l1 0)).toNat * 4)).block,(ad441.add (((rd l1 0)).toNat * 4)).off + 1,none⟩=some (.string ((rd_T26 l0_3 (rd l1 0)).f1))∧w'.cell? ⟨(ad441.add (((rd l1 0)).toNat * 4)).block,(ad441.add (((rd l1 0)).toNat * 4)).off + 2,none⟩=some (.bool ((rd_T26 l0_3 (rd l1 0)).f2))∧w'.cell? ⟨(ad441.add (((rd l1 0)).toNat * 4)).block,(ad441.add (((rd l1 0)).toNat * 4)).off + 3,none⟩=some (.slice A441_3 ((rd_T26 l0_3 (rd l1 0)).f3).length c441_3)) (ds:= [17]) #[false,false,false,false,false,false,false,false,false,false,false,false,false,false,false,false,false,false] (by kernel_rfl) rfl rfl ⟨(blk_cell BK438.out 0).trans rfl,(blk_cell BK438.out 1).trans rfl,(blk_cell BK438.out 2).trans rfl,(blk_cell BK438.out 3).trans rfl,(blk_cell BK423.out 0).trans rfl,(blk_cell BK423.out 1).trans rfl,(blk_cell BK423.out 2).trans rfl,(blk_cell BK423.out 3).trans rfl,(blk_cell BK424.out 0).trans rfl,(blk_cell BK424.out 1).trans rfl,(blk_cell BK424.out 2).trans rfl,(blk_cell BK424.out 3).trans rfl,((HB.out.cell (World.block_lt_of_cell? w _ hw439_0)).trans hw439_0),((HB.out.cell (World.block_lt_of_cell? w _ hw440_0)).trans hw440_0),((HB.out.cell (World.block_lt_of_cell? w _ hw441_0)).trans hw441_0),((HB.out.cell (World.block_lt_of_cell? w _ hw441_1)).trans hw441_1),((HB.out.cell (World.block_lt_of_cell? w _ hw441_2)).trans hw441_2),((HB.out.cell (World.block_lt_of_cell? w _ hw441_3)).trans hw441_3)⟩ (fun hHeld=> ?_);refine with_tabW impl_put.tab4 impl_put.bits4 (fun HT_ HW_=> ?_)
       generalize w37.drew=w38 at HO437 BK423 BK424 BK425 BK438 HB HR441_3 HR442 hx439_0 hx440_0 hx441_0 hx441_1 hx441_2 hx441_3 hHeld ⊢
       refine pure_ (i:=0) (N:=some 15) (v:= ?_) (a':= ?_) #[true,false,false,false,false,false,false,false,false,false,false,false,false,false,false,false,false,false] rfl rfl (any_of HT_.out (by kernel_rfl)) (fun _ _ _ h=>h) (Or.inl ⟨by rfl, ?_⟩) ?_ ?_
       rotate_left
       ·intro w'
        go_simp
        with_reducible rfl
       rotate_left
       ·simp only [Act.put,List.setIfInBounds_toArray,List.set_cons_zero,List.set_cons_succ,i64_w,i32_w]
        rfl
       refine pure_ (i:=2) (N:=some 17) (v:= ?_) (a':= ?_) #[true,false,true,false,false,false,false,false,false,false,false,false,false,false,false,false,false,false] rfl rfl (any_of HT_.out (by kernel_rfl)) (fun _ _ _ h=>h) (Or.inl ⟨by rfl, ?_⟩) ?_ ?_
       rotate_left
       ·intro w'
        go_simp
        with_reducible rfl
       rotate_left
       ·simp only [Act.put,List.setIfInBounds_toArray,List.set_cons_zero,List.set_cons_succ,i64_w,i32_w]
        rfl
       refine pure_ (i:=3) (N:=some 18) (v:= ?_) (a':= ?_) #[true,false,true,true,false,false,false,false,false,false,false,false,false,false,false,false,false,false] rfl rfl (any_of HT_.out (by kernel_rfl)) (fun _ _ _ h=>h) (Or.inl ⟨by rfl, ?_⟩) ?_ ?_
       rotate_left
       ·intro w'
        go_simp
        with_reducible rfl
       rotate_left
       ·simp only [Act.put,List.setIfInBounds_toArray,List.set_cons_zero,List.set_cons_succ,i64_w,i32_w]
        rfl
       refine pure_ (i:=5) (N:=some 20) (v:= ?_) (a':= ?_) #[true,false,true,true,false,true,false,false,false,false,false,false,false,false,false,false,false,false] rfl rfl (any_of HT_.out (by kernel_rfl)) (fun _ _ _ h=>h) (Or.inl ⟨by rfl, ?_⟩) ?_ ?_
       rotate_left
       ·intro w'
        go_simp
        with_reducible rfl
       rotate_left
       ·simp only [Act.put,List.setIfInBounds_toArray,List.set_cons_zero,List.set_cons_succ,i64_w,i32_w]
        rfl
       refine pure_ (i:=7) (N:=some 22) (v:= ?_) (a':= ?_) #[true,false,true,true,false,true,false,true,false,false,false,false,false,false,false,false,false,false] rfl rfl (any_of HT_.out (by kernel_rfl)) (fun _ _ _ h=>h) (Or.inl ⟨by rfl, ?_⟩) ?_ ?_
       rotate_left
       ·intro w'
        go_simp
        with_reducible rfl
       rotate_left
       ·simp only [Act.put,List.setIfInBounds_toArray,List.set_cons_zero,List.set_cons_succ,i64_w,i32_w]
        rfl
       refine pure_ (i:=8) (N:=some 23) (v:= ?_) (a':= ?_) #[true,false,true,true,false,true,false,true,true,false,false,false,false,false,false,false,false,false] rfl rfl (any_of HT_.out (by kernel_rfl)) (fun _ _ _ h=>h) (Or.inl ⟨by rfl, ?_⟩) ?_ ?_
       rotate_left
       ·intro w'
        go_simp
        with_reducible rfl
       rotate_left
       ·simp only [Act.put,List.setIfInBounds_toArray,List.set_cons_zero,List.set_cons_succ,i64_w,i32_w]
        rfl
       refine pure_ (i:=12) (N:=some 27) (v:= ?_) (a':= ?_) #[true,false,true,true,false,true,false,true,true,false,false,false,true,false,false,false,false,false] rfl rfl (any_of HT_.out (by kernel_rfl)) (fun _ _ _ h=>h) (Or.inl ⟨by rfl, ?_⟩) ?_ ?_
       rotate_left
       ·intro w'
        go_simp
        with_reducible rfl
       rotate_left
       ·simp only [Act.put,List.setIfInBounds_toArray,List.set_cons_zero,List.set_cons_succ,i64_w,i32_w]
        rfl
       refine pure_ (i:=13) (N:=some 28) (v:= ?_) (a':= ?_) #[true,false,true,true,false,true,false,true,true,false,false,false,true,true,false,false,false,false] rfl rfl (any_of HT_.out (by kernel_rfl)) (fun _ _ _ h=>h) (Or.inl ⟨by rfl, ?_⟩) ?_ ?_
       rotate_left
       ·intro w'
        go_simp
        with_reducible rfl
       rotate_left
       ·simp only [Act.put,List.setIfInBounds_toArray,List.set_cons_zero,List.set_cons_succ,i64_w,i32_w]
        rfl
       refine take_ (i:=1) (N:=some 16) (v:= ?_) (a':= ?_) #[true,true,true,true,false,true,false,true,true,false,false,false,true,true,false,false,false,false] rfl rfl (take_ofW HT_.out HW_.out (by kernel_rfl)) (fun _ _ _ h=>h) (Or.inl ⟨by rfl, ?_⟩) hHeld ?_ ?_
       rotate_left
       ·rintro w' ⟨s0,s1,s2,s3,s4,s5,s6,s7,s8,s9,s10,s11,s12,s13,s14,s15,s16,s17⟩
        go_simp
        with_reducible rfl
       rotate_left
       ·simp only [Act.put,List.setIfInBounds_toArray,List.set_cons_zero,List.set_cons_succ,i64_w,i32_w]
        rfl
       refine take_ (i:=4) (N:=some 19) (v:= ?_) (a':= ?_) #[true,true,true,true,true,true,false,true,true,false,false,false,true,true,false,false,false,false] rfl rfl (take_ofW HT_.out HW_.out (by kernel_rfl)) (fun _ _ _ h=>h) (Or.inl ⟨by rfl, ?_⟩) hHeld ?_ ?_
       rotate_left
       ·rintro w' ⟨s0,s1,s2,s3,s4,s5,s6,s7,s8,s9,s10,s11,s12,s13,s14,s15,s16,s17⟩
        go_simp
        with_reducible rfl
       rotate_left
       ·simp only [Act.put,List.setIfInBounds_toArray,List.set_cons_zero,List.set_cons_succ,i64_w,i32_w]
        rfl
       refine take_ (i:=6) (N:=some 21) (v:= ?_) (a':= ?_) #[true,true,true,true,true,true,true,true,true,false,false,false,true,true,false,false,false,false] rfl rfl (take_ofW HT_.out HW_.out (by kernel_rfl)) (fun _ _ _ h=>h) (Or.inl ⟨by rfl, ?_⟩) hHeld ?_ ?_
       rotate_left
       ·rintro w' ⟨s0,s1,s2,s3,s4,s5,s6,s7,s8,s9,s10,s11,s12,s13,s14,s15,s16,s17⟩
        go_simp
        with_reducible rfl
       rotate_left
       ·simp only [Act.put,List.setIfInBounds_toArray,List.set_cons_zero,List.set_cons_succ,i64_w,i32_w]
        rfl
       refine take_ (i:=9) (N:=some 24) (v:= ?_) (a':= ?_) #[true,true,true,true,true,true,true,true,true,true,false,false,true,true,false,false,false,false] rfl rfl (take_ofW HT_.out HW_.out (by kernel_rfl)) (fun _ _ _ h=>h) (Or.inl ⟨by rfl, ?_⟩) hHeld ?_ ?_
       rotate_left
       ·rintro w' ⟨s0,s1,s2,s3,s4,s5,s6,s7,s8,s9,s10,s11,s12,s13,s14,s15,s16,s17⟩
        go_simp
        with_reducible rfl
       rotate_left
       ·simp only [Act.put,List.setIfInBounds_toArray,List.set_cons_zero,List.set_cons_succ,i64_w,i32_w]
        rfl
       refine pure_ (i:=10) (N:=some 25) (v:= ?_) (a':= ?_) #[true,true,true,true,true,true,true,true,true,true,true,false,true,true,false,false,false,false] rfl rfl (any_of HT_.out (by kernel_rfl)) (fun _ _ _ h=>h) (Or.inl ⟨by rfl, ?_⟩) ?_ ?_
       rotate_left
       ·intro w'
        go_simp
        with_reducible rfl
       rotate_left
       ·simp only [Act.put,List.setIfInBounds_toArray,List.set_cons_zero,List.set_cons_succ,i64_w,i32_w]
        rfl
       refine take_ (i:=11) (N:=some 26) (v:= ?_) (a':= ?_) #[true,true,true,true,true,true,true,true,true,true,true,true,true,true,false,false,false,false] rfl rfl (take_ofW HT_.out HW_.out (by kernel_rfl)) (fun _ _ _ h=>h) (Or.inl ⟨by rfl, ?_⟩) hHeld ?_ ?_
       rotate_left
       ·rintro w' ⟨s0,s1,s2,s3,s4,s5,s6,s7,s8,s9,s10,s11,s12,s13,s14,s15,s16,s17⟩
        go_simp
        with_reducible rfl
       rotate_left
       ·simp only [Act.put,List.setIfInBounds_toArray,List.set_cons_zero,List.set_cons_succ,i64_w,i32_w]
        rfl
       refine take_ (i:=14) (N:=some 29) (v:= ?_) (a':= ?_) #[true,true,true,true,true,true,true,true,true,true,true,true,true,true,true,false,false,false] rfl rfl (take_ofW HT_.out HW_.out (by kernel_rfl)) (fun _ _ _ h=>h) (Or.inl ⟨by rfl, ?_⟩) hHeld ?_ ?_
       rotate_left
       ·rintro w' ⟨s0,s1,s2,s3,s4,s5,s6,s7,s8,s9,s10,s11,s12,s13,s14,s15,s16,s17⟩
        go_simp
        with_reducible rfl
       rotate_left
       ·simp only [Act.put,List.setIfInBounds_toArray,List.set_cons_zero,List.set_cons_succ,i64_w,i32_w]
        rfl
       refine one_ (i:=15) (N:=some 30) #[true,true,true,true,true,true,true,true,true,true,true,true,true,true,true,true,false,false] rfl rfl (one_of HT_.out (by kernel_rfl)) (by decide) (fun K hK=> ?_)
       refine goes_ Try.func47 (by kernel_rfl) rfl #[.agg #[.string ((rd_T26 l0_3 (rd l1 0)).f0), .string ((rd_T26 l0_3 (rd l1 0)).f1), .bool ((rd_T26 l0_3 (rd l1 0)).f2), .slice A441_3 ((rd_T26 l0_3 (rd l1 0)).f3).length c441_3], .slice A39 (l1.drop 1).length (c1 - 1), .agg #[.string a2_0, .string a2_1, .bool a2_2, .slice A2_3 l2_3.length c2_3]] (by rfl) rfl rfl (by (try simp only [List.map_toArray,List.map_cons,List.map_nil]);first|done|(rw [show (l1.drop 1).length=(l1.length - 1) from List.length_drop] <;> rfl)|rfl|(simp only [List.length_drop,List.length_take];rfl)) ?_
       with_reducible refine (ih k (by omega) ((rd_T26 l0_3 (rd l1 0)).f0) ((rd_T26 l0_3 (rd l1 0)).f1) ((rd_T26 l0_3 (rd l1 0)).f2) _ _ ((rd_T26 l0_3 (rd l1 0)).f3) _ _ (l1.drop 1) a2_0 a2_1 a2_2 _ _ l2_3 t443 t444 t445 t446 _ ?side1 ?side2 ?side3 ?side4 ?side5 ?side6 A21.out).mono ?_
       (case side1=>repeat (first|exact (Kd.C_below HR441_3.out HB.out)|(with_reducible refine Kd.C_alloc ?_ _)|(with_reducible refine Kd.C_drewN ?_ _)|(with_reducible refine Kd.C_drew ?_)))
       (case side2=>exact HC441_3.out)
       (case side3=>repeat (first|exact (Kd.C_below HR442.out HB.out)|(with_reducible refine Kd.C_alloc ?_ _)|(with_reducible refine Kd.C_drewN ?_ _)|(with_reducible refine Kd.C_drew ?_)))
       (case side4=>exact HC442.out)
       (case side5=>repeat (first|exact (Kd.C_below HR2_3.out HB.out)|(with_reducible refine Kd.C_alloc ?_ _)|(with_reducible refine Kd.C_drewN ?_ _)|(with_reducible refine Kd.C_drew ?_)))
       (case side6=>exact HC2_3.out)
       rintro e w40 ⟨v447,rfl,ho0,hb⟩
       refine ⟨_,rfl, ?_⟩
       have n0_:=A0_ (Kd.N_elder' HO437.out (Kd.N_base ho0) hb)
       have n1_:=A0_ (Kd.N_lower (Kd.N_mono (ok':=fun k_=>(w.heap.size≤k_)∧some k_≠(.slice Ao36 t435.length co36:Value).ownBlock∧k_≠gb423∧k_≠gb424∧k_≠gb425∧k_≠gb438) ho0 (fun k_ hk_=>⟨(Nat.le_trans (below_size HB.out) hk_),(Kd.fresh' (Kd.N_lt HO437.out) k_ hk_),(Kd.freshB BK423.out k_ hk_),(Kd.freshB BK424.out k_ hk_),(Kd.freshB BK425.out k_ hk_),(Kd.freshB BK438.out k_ hk_)⟩)) (below_size HB.out))
       have n2_:=A0_ (blk_below BK423.out hb)
       have n3_:=A0_ (blk_below BK424.out hb)
       have n4_:=A0_ (blk_below BK425.out hb)
       have n5_:=A0_ (blk_below BK438.out hb)
       have n6_:=A0_ (below_step HB.out hb)
       clear HO437
       clear BK423
       clear BK424
       clear BK425
       clear BK438
       clear HB
       have HO437:=n0_
       have HO448:=n1_
       have BK423:=n2_
       have BK424:=n3_
       have BK425:=n4_
       have BK438:=n5_
       have HB:=n6_
       clear n0_ n1_ n2_ n3_ n4_ n5_ n6_
       (try clear hb)
       (try clear hb2)
       (try clear hk)
       (try clear hi)
       (try clear ho0)
       have p23:0≤((rd l1 0):Int):=of_decide_eq_true (by first|(with_reducible assumption)|assumption)
       have q23:((rd l1 0):Int) < ((t435.length:Int):Int):=of_decide_eq_true (by first|(with_reducible assumption)|assumption)
       obtain ⟨go23,co23,eo23,gb23,gl23,cl23,HG23⟩:=Kd.N_form HO437.out (by omega)
       (first|cases eo23|(injection eo23 with ea_ en_ ec_;(first|subst ea_|(injection ea_ with ea_;subst ea_));subst ec_;clear en_))
       have GB23:=A0_ gb23
       have GG23:=A0_ HG23
       clear gb23 gl23 HG23
       obtain ⟨ce23,hcl23,hM23,hcc23,hfr23⟩:=Kd.N_elem HO437.out z26 ((rd l1 0):Int) p23 q23
       obtain ⟨ua23_3,uc23_3,rfl,ul23_3,ge23_3⟩:=k26_openF hM23
       have hx23_0:World.cell? _ ⟨go23,((rd l1 0):Int).toNat * 4,none⟩=some (.string ((rd_T26 t435 (rd l1 0)).f0)):=hcc23 0 _ rfl
       have hx23_1:World.cell? _ ⟨go23,((rd l1 0):Int).toNat * 4 + 1,none⟩=some (.string ((rd_T26 t435 (rd l1 0)).f1)):=hcc23 1 _ rfl
       have hx23_2:World.cell? _ ⟨go23,((rd l1 0):Int).toNat * 4 + 2,none⟩=some (.bool ((rd_T26 t435 (rd l1 0)).f2)):=hcc23 2 _ rfl
       have hx23_3:World.cell? _ ⟨go23,((rd l1 0):Int).toNat * 4 + 3,none⟩=some (.slice ua23_3 ((rd_T26 t435 (rd l1 0)).f3).length uc23_3):=hcc23 3 _ rfl
       have hf23_0:World.frozen? _ ⟨go23,((rd l1 0):Int).toNat * 4,none⟩=false:=hfr23 0
       have hf23_1:World.frozen? _ ⟨go23,((rd l1 0):Int).toNat * 4 + 1,none⟩=false:=hfr23 1
       have hf23_2:World.frozen? _ ⟨go23,((rd l1 0):Int).toNat * 4 + 2,none⟩=false:=hfr23 2
       have hf23_3:World.frozen? _ ⟨go23,((rd l1 0):Int).toNat * 4 + 3,none⟩=false:=hfr23 3
       clear hcl23 hcc23 hfr23 hM23
       replace p23:=eq_true p23
       replace q23:=eq_true q23
       obtain ⟨Ao41,co41,eo41⟩:=Kd.N_slice HO448.out
       (first|subst eo41|(injection eo41 with f1_ f2_ f3_;have f4_:=f1_.symm;have f5_:=f3_.symm;clear f1_ f2_ f3_;subst f4_;subst f5_))
       have HX42:=A0_ (show Kd.N k26 26 _ w.heap.size (fun k_=>(w.heap.size≤k_)∧some k_≠(.slice Ao41 t446.length co41:Value).ownBlock∧k_≠gb423∧k_≠gb424∧k_≠gb425∧k_≠gb438) (.slice (some ⟨go23,0,none⟩) t435.length co36) t435 from (Kd.N_mono (HO437.out) (fun k_ hk=>⟨hk.1.1,⟨hk.2,⟨hk.1.2.1,⟨hk.1.2.2.1,⟨hk.1.2.2.2.1,hk.1.2.2.2.2⟩⟩⟩⟩⟩)))
       replace HX42:=A0_ (show Kd.N k26 26 _ w.heap.size (fun k_=>(w.heap.size≤k_)∧k_≠gb423∧k_≠gb424∧k_≠gb425∧k_≠gb438) (.slice (some ⟨go23,0,none⟩) t435.length co36) t435 from Kd.N_mono HX42.out (fun k_ hk=>⟨hk.1,⟨hk.2.2.1,⟨hk.2.2.2.1,⟨hk.2.2.2.2.1,hk.2.2.2.2.2⟩⟩⟩⟩))
       obtain ⟨ce42,hcl42,hM42,hcc42,hfr42⟩:=Kd.N_elem HX42.out z26 ((rd l1 0):Int) (of_decide_eq_true (by first|(with_reducible assumption)|assumption)) (by have h_:((rd l1 0):Int) < ((t435.length:Int):Int):=of_decide_eq_true (by first|(with_reducible assumption)|assumption);first|exact h_|(have e_:=(Kd.N_reads' HO437.out).1;omega)|simpa using h_)
       obtain ⟨ua42_3,uc42_3,rfl,ul42_3,ge42_3⟩:=k26_openF hM42
       have HP42:=(Kd.N_seg HX42.out ((rd l1 0):Int) (of_decide_eq_true (by first|(with_reducible assumption)|assumption)) (by have h_:((rd l1 0):Int) < ((t435.length:Int):Int):=of_decide_eq_true (by first|(with_reducible assumption)|assumption);first|exact h_|(have e_:=(Kd.N_reads' HO437.out).1;omega)|simpa using h_) (seg:= [.string t443, .string t444, .bool t445, .slice Ao41 t446.length co41]) (j:=0) hcl42 hcc42 (show 4≤4 from by decide) (x':=(⟨t443,t444,t445,t446⟩:S26)) (k26_mkF _ _ (⟨t443,t444,t445,t446⟩:S26) (Kd.N_reads' (Kd.N_mono (ok':=(fun k_=>((fun k_=>(w.heap.size≤k_)∧k_≠gb423∧k_≠gb424∧k_≠gb425∧k_≠gb438)) k_∧k_≠go23)) (HO448.out) (fun k_ hk=>(by exact ⟨⟨hk.1,⟨hk.2.2.1,⟨hk.2.2.2.1,⟨hk.2.2.2.2.1,hk.2.2.2.2.2⟩⟩⟩⟩,fun e_=>(hk.2.1) (by rw [e_];rfl)⟩)))).2.1 (Kd.N_F (Kd.N_mono (ok':=(fun k_=>((fun k_=>(w.heap.size≤k_)∧k_≠gb423∧k_≠gb424∧k_≠gb425∧k_≠gb438)) k_∧k_≠go23)) (HO448.out) (fun k_ hk=>(by exact ⟨⟨hk.1,⟨hk.2.2.1,⟨hk.2.2.2.1,⟨hk.2.2.2.2.1,hk.2.2.2.2.2⟩⟩⟩⟩,fun e_=>(hk.2.1) (by rw [e_];rfl)⟩))))) (fun _ hk=>hk)).1
       rw [← Ny449.out] at HP42
       have HQ42:=A0_ HP42
       clear hcl42 hcc42 hfr42 hM42 HP42
       refine hK.out _ _ ⟨(blk_cell BK438.out 0).trans rfl,(blk_cell BK438.out 1).trans rfl,(blk_cell BK438.out 2).trans rfl,(blk_cell BK438.out 3).trans rfl,(blk_cell BK423.out 0).trans rfl,(blk_cell BK423.out 1).trans rfl,(blk_cell BK423.out 2).trans rfl,(blk_cell BK423.out 3).trans rfl,(blk_cell BK424.out 0).trans rfl,(blk_cell BK424.out 1).trans rfl,(blk_cell BK424.out 2).trans rfl,(blk_cell BK424.out 3).trans rfl,((HB.out.cell (World.block_lt_of_cell? w _ hw439_0)).trans hw439_0),((HB.out.cell (World.block_lt_of_cell? w _ hw440_0)).trans hw440_0),((HB.out.cell (World.block_lt_of_cell? w _ hw441_0)).trans hw441_0),((HB.out.cell (World.block_lt_of_cell? w _ hw441_1)).trans hw441_1),((HB.out.cell (World.block_lt_of_cell? w _ hw441_2)).trans hw441_2),((HB.out.cell (World.block_lt_of_cell? w _ hw441_3)).trans hw441_3)⟩ (fun hHeld=> ?_)
       clear hK K
       refine norm_ (a':= ?_) ?_ ?_
       rotate_left
       ·show Act.put _ (some 30) _=_
        simp only [Act.put,List.setIfInBounds_toArray,List.set_cons_zero,List.set_cons_succ,i64_w,i32_w]
        rfl
       refine pure_ (i:=16) (N:=some 31) (v:= ?_) (a':= ?_) #[true,true,true,true,true,true,true,true,true,true,true,true,true,true,true,true,true,false] rfl rfl (any_of HT_.out (by kernel_rfl)) (fun _ _ _ h=>h) (Or.inl ⟨by rfl, ?_⟩) ?_ ?_
       rotate_left
       ·intro w'
        go_simp
        with_reducible rfl
       rotate_left
       ·simp only [Act.put,List.setIfInBounds_toArray,List.set_cons_zero,List.set_cons_succ,i64_w,i32_w]
        rfl
       refine last_ (i:=17) (N:=none) #[true,true,true,true,true,true,true,true,true,true,true,true,true,true,true,true,true,true] rfl rfl (one_of HT_.out (by kernel_rfl)) (by decide) (fun K hK=> ?_)
       refine skip_ (w1:= ?_) (by rfl) rfl ?_ ?_
       rotate_left
       ·go_simp
        rfl
       refine hK.out _ _ ?_
       clear hK K
       refine done_ (done_of HT_.out (by kernel_rfl)) ?_
       have n0_:Aside0 (Kd.N k26 26 ((((w40.setCell ⟨go23,((rd l1 0):Int).toNat * 4,none⟩ (.string t443)).setCell ⟨go23,((rd l1 0):Int).toNat * 4 + 1,none⟩ (.string t444)).setCell ⟨go23,((rd l1 0):Int).toNat * 4 + 2,none⟩ (.bool t445)).setCell ⟨go23,((rd l1 0):Int).toNat * 4 + 3,none⟩ (.slice Ao41 t446.length co41)) w.heap.size (fun k_=>(w.heap.size≤k_)∧k_≠gb423∧k_≠gb424∧k_≠gb425∧k_≠gb438) (.slice (some ⟨go23,0,none⟩) t435.length co36) y449):=⟨by (with_reducible repeat (first|apply Kd.N_alloc|apply Kd.N_drewN|apply Kd.N_drew));exact HQ42.out⟩
       have n1_:Aside0 (((((w40.setCell ⟨go23,((rd l1 0):Int).toNat * 4,none⟩ (.string t443)).setCell ⟨go23,((rd l1 0):Int).toNat * 4 + 1,none⟩ (.string t444)).setCell ⟨go23,((rd l1 0):Int).toNat * 4 + 2,none⟩ (.bool t445)).setCell ⟨go23,((rd l1 0):Int).toNat * 4 + 3,none⟩ (.slice Ao41 t446.length co41)).heap[gb423]?= some (.cells #[.string a0_0, .string a0_1, .bool a0_2, .slice (some ad441) l0_3.length c0_3] 26 (0,0))):=⟨by (with_reducible repeat (first|refine blk_drewN ?_ _|refine blk_drew ?_|refine blk_alloc ?_ _));refine blk_far ?_ (by have h_:=Kd.N_away (g:=gb423) HO437.out (fun _ hk=>(by first|exact hk.2.1|(have hk0_:=hk;revert hk0_;(try simp only [and_imp]);intros;(repeat' apply And.intro) <;> assumption)));intro e_;exact h_ (by rw [e_];rfl)) _;(with_reducible repeat (first|refine blk_drewN ?_ _|refine blk_drew ?_|refine blk_alloc ?_ _));refine blk_far ?_ (by have h_:=Kd.N_away (g:=gb423) HO437.out (fun _ hk=>(by first|exact hk.2.1|(have hk0_:=hk;revert hk0_;(try simp only [and_imp]);intros;(repeat' apply And.intro) <;> assumption)));intro e_;exact h_ (by rw [e_];rfl)) _;(with_reducible repeat (first|refine blk_drewN ?_ _|refine blk_drew ?_|refine blk_alloc ?_ _));refine blk_far ?_ (by have h_:=Kd.N_away (g:=gb423) HO437.out (fun _ hk=>(by first|exact hk.2.1|(have hk0_:=hk;revert hk0_;(try simp only [and_imp]);intros;(repeat' apply And.intro) <;> assumption)));intro e_;exact h_ (by rw [e_];rfl)) _;(with_reducible repeat (first|refine blk_drewN ?_ _|refine blk_drew ?_|refine blk_alloc ?_ _));refine blk_far ?_ (by have h_:=Kd.N_away (g:=gb423) HO437.out (fun _ hk=>(by first|exact hk.2.1|(have hk0_:=hk;revert hk0_;(try simp only [and_imp]);intros;(repeat' apply And.intro) <;> assumption)));intro e_;exact h_ (by rw [e_];rfl)) _;(with_reducible repeat (first|refine blk_drewN ?_ _|refine blk_drew ?_|refine blk_alloc ?_ _));exact BK423.out⟩
       have n2_:Aside0 (((((w40.setCell ⟨go23,((rd l1 0):Int).toNat * 4,none⟩ (.string t443)).setCell ⟨go23,((rd l1 0):Int).toNat * 4 + 1,none⟩ (.string t444)).setCell ⟨go23,((rd l1 0):Int).toNat * 4 + 2,none⟩ (.bool t445)).setCell ⟨go23,((rd l1 0):Int).toNat * 4 + 3,none⟩ (.slice Ao41 t446.length co41)).heap[gb424]?= some (.cells #[.string a2_0, .string a2_1, .bool a2_2, .slice A2_3 l2_3.length c2_3] 26 (0,0))):=⟨by (with_reducible repeat (first|refine blk_drewN ?_ _|refine blk_drew ?_|refine blk_alloc ?_ _));refine blk_far ?_ (by have h_:=Kd.N_away (g:=gb424) HO437.out (fun _ hk=>(by first|exact hk.2.2.1|(have hk0_:=hk;revert hk0_;(try simp only [and_imp]);intros;(repeat' apply And.intro) <;> assumption)));intro e_;exact h_ (by rw [e_];rfl)) _;(with_reducible repeat (first|refine blk_drewN ?_ _|refine blk_drew ?_|refine blk_alloc ?_ _));refine blk_far ?_ (by have h_:=Kd.N_away (g:=gb424) HO437.out (fun _ hk=>(by first|exact hk.2.2.1|(have hk0_:=hk;revert hk0_;(try simp only [and_imp]);intros;(repeat' apply And.intro) <;> assumption)));intro e_;exact h_ (by rw [e_];rfl)) _;(with_reducible repeat (first|refine blk_drewN ?_ _|refine blk_drew ?_|refine blk_alloc ?_ _));refine blk_far ?_ (by have h_:=Kd.N_away (g:=gb424) HO437.out (fun _ hk=>(by first|exact hk.2.2.1|(have hk0_:=hk;revert hk0_;(try simp only [and_imp]);intros;(repeat' apply And.intro) <;> assumption)));intro e_;exact h_ (by rw [e_];rfl)) _;(with_reducible repeat (first|refine blk_drewN ?_ _|refine blk_drew ?_|refine blk_alloc ?_ _));refine blk_far ?_ (by have h_:=Kd.N_away (g:=gb424) HO437.out (fun _ hk=>(by first|exact hk.2.2.1|(have hk0_:=hk;revert hk0_;(try simp only [and_imp]);intros;(repeat' apply And.intro) <;> assumption)));intro e_;exact h_ (by rw [e_];rfl)) _;(with_reducible repeat (first|refine blk_drewN ?_ _|refine blk_drew ?_|refine blk_alloc ?_ _));exact BK424.out⟩
       have n3_:Aside0 (((((w40.setCell ⟨go23,((rd l1 0):Int).toNat * 4,none⟩ (.string t443)).setCell ⟨go23,((rd l1 0):Int).toNat * 4 + 1,none⟩ (.string t444)).setCell ⟨go23,((rd l1 0):Int).toNat * 4 + 2,none⟩ (.bool t445)).setCell ⟨go23,((rd l1 0):Int).toNat * 4 + 3,none⟩ (.slice Ao41 t446.length co41)).heap[gb425]?= some (.cells #[.string (⟨#[]⟩:ByteArray), .string (⟨#[]⟩:ByteArray), .bool false, .slice none 0 0] 26 (0,0))):=⟨by (with_reducible repeat (first|refine blk_drewN ?_ _|refine blk_drew ?_|refine blk_alloc ?_ _));refine blk_far ?_ (by have h_:=Kd.N_away (g:=gb425) HO437.out (fun _ hk=>(by first|exact hk.2.2.2.1|(have hk0_:=hk;revert hk0_;(try simp only [and_imp]);intros;(repeat' apply And.intro) <;> assumption)));intro e_;exact h_ (by rw [e_];rfl)) _;(with_reducible repeat (first|refine blk_drewN ?_ _|refine blk_drew ?_|refine blk_alloc ?_ _));refine blk_far ?_ (by have h_:=Kd.N_away (g:=gb425) HO437.out (fun _ hk=>(by first|exact hk.2.2.2.1|(have hk0_:=hk;revert hk0_;(try simp only [and_imp]);intros;(repeat' apply And.intro) <;> assumption)));intro e_;exact h_ (by rw [e_];rfl)) _;(with_reducible repeat (first|refine blk_drewN ?_ _|refine blk_drew ?_|refine blk_alloc ?_ _));refine blk_far ?_ (by have h_:=Kd.N_away (g:=gb425) HO437.out (fun _ hk=>(by first|exact hk.2.2.2.1|(have hk0_:=hk;revert hk0_;(try simp only [and_imp]);intros;(repeat' apply And.intro) <;> assumption)));intro e_;exact h_ (by rw [e_];rfl)) _;(with_reducible repeat (first|refine blk_drewN ?_ _|refine blk_drew ?_|refine blk_alloc ?_ _));refine blk_far ?_ (by have h_:=Kd.N_away (g:=gb425) HO437.out (fun _ hk=>(by first|exact hk.2.2.2.1|(have hk0_:=hk;revert hk0_;(try simp only [and_imp]);intros;(repeat' apply And.intro) <;> assumption)));intro e_;exact h_ (by rw [e_];rfl)) _;(with_reducible repeat (first|refine blk_drewN ?_ _|refine blk_drew ?_|refine blk_alloc ?_ _));exact BK425.out⟩
       have n4_:Aside0 (((((w40.setCell ⟨go23,((rd l1 0):Int).toNat * 4,none⟩ (.string t443)).setCell ⟨go23,((rd l1 0):Int).toNat * 4 + 1,none⟩ (.string t444)).setCell ⟨go23,((rd l1 0):Int).toNat * 4 + 2,none⟩ (.bool t445)).setCell ⟨go23,((rd l1 0):Int).toNat * 4 + 3,none⟩ (.slice Ao41 t446.length co41)).heap[gb438]?= some (.cells #[.string t432, .string t433, .bool t434, .slice (some ⟨go23,0,none⟩) t435.length co36] 26 (0,0))):=⟨by (with_reducible repeat (first|refine blk_drewN ?_ _|refine blk_drew ?_|refine blk_alloc ?_ _));refine blk_far ?_ (by have h_:=Kd.N_away (g:=gb438) HO437.out (fun _ hk=>(by first|exact hk.2.2.2.2|(have hk0_:=hk;revert hk0_;(try simp only [and_imp]);intros;(repeat' apply And.intro) <;> assumption)));intro e_;exact h_ (by rw [e_];rfl)) _;(with_reducible repeat (first|refine blk_drewN ?_ _|refine blk_drew ?_|refine blk_alloc ?_ _));refine blk_far ?_ (by have h_:=Kd.N_away (g:=gb438) HO437.out (fun _ hk=>(by first|exact hk.2.2.2.2|(have hk0_:=hk;revert hk0_;(try simp only [and_imp]);intros;(repeat' apply And.intro) <;> assumption)));intro e_;exact h_ (by rw [e_];rfl)) _;(with_reducible repeat (first|refine blk_drewN ?_ _|refine blk_drew ?_|refine blk_alloc ?_ _));refine blk_far ?_ (by have h_:=Kd.N_away (g:=gb438) HO437.out (fun _ hk=>(by first|exact hk.2.2.2.2|(have hk0_:=hk;revert hk0_;(try simp only [and_imp]);intros;(repeat' apply And.intro) <;> assumption)));intro e_;exact h_ (by rw [e_];rfl)) _;(with_reducible repeat (first|refine blk_drewN ?_ _|refine blk_drew ?_|refine blk_alloc ?_ _));refine blk_far ?_ (by have h_:=Kd.N_away (g:=gb438) HO437.out (fun _ hk=>(by first|exact hk.2.2.2.2|(have hk0_:=hk;revert hk0_;(try simp only [and_imp]);intros;(repeat' apply And.intro) <;> assumption)));intro e_;exact h_ (by rw [e_];rfl)) _;(with_reducible repeat (first|refine blk_drewN ?_ _|refine blk_drew ?_|refine blk_alloc ?_ _));exact BK438.out⟩
       have n5_:Aside0 (Below w.heap.size w ((((w40.setCell ⟨go23,((rd l1 0):Int).toNat * 4,none⟩ (.string t443)).setCell ⟨go23,((rd l1 0):Int).toNat * 4 + 1,none⟩ (.string t444)).setCell ⟨go23,((rd l1 0):Int).toNat * 4 + 2,none⟩ (.bool t445)).setCell ⟨go23,((rd l1 0):Int).toNat * 4 + 3,none⟩ (.slice Ao41 t446.length co41))):=⟨by repeat (first|(with_reducible first|exact HB.out|apply below_alloc|apply pw_below_drewN|apply below_drew1|refine below_set ?_ GB23.out|refine below_set ?_ GB23.out|refine below_set ?_ GB23.out|refine below_set ?_ GB23.out|refine below_set ?_ GE423.out|refine below_set ?_ GE424.out|refine below_set ?_ GE425.out|refine below_set ?_ GE438.out)|exact HB.out)⟩
       (try clear HO437)
       (try clear BK423)
       (try clear BK424)
       (try clear BK425)
       (try clear BK438)
       (try clear HB)
       generalize ((((w40.setCell ⟨go23,((rd l1 0):Int).toNat * 4,none⟩ (.string t443)).setCell ⟨go23,((rd l1 0):Int).toNat * 4 + 1,none⟩ (.string t444)).setCell ⟨go23,((rd l1 0):Int).toNat * 4 + 2,none⟩ (.bool t445)).setCell ⟨go23,((rd l1 0):Int).toNat * 4 + 3,none⟩ (.slice Ao41 t446.length co41))=w43 at n0_ n1_ n2_ n3_ n4_ n5_ ⊢
       have HO437:=n0_
       have BK423:=n1_
       have BK424:=n2_
       have BK425:=n3_
       have BK438:=n4_
       have HB:=n5_
       clear n0_ n1_ n2_ n3_ n4_ n5_
       obtain ⟨hcz44_0,hcz44_1,hcz44_2,hcz44_3⟩:=bc4_ BK438.out
       obtain ⟨hfz44_0,hfz44_1,hfz44_2,hfz44_3⟩:=bf4_ BK438.out
       have hnb45:=NB425_424.out
       have hnc45:=NB424_425.out
       obtain ⟨hcz46_0,hcz46_1,hcz46_2,hcz46_3⟩:=bc4_ BK425.out
       obtain ⟨hfz46_0,hfz46_1,hfz46_2,hfz46_3⟩:=bf4_ BK425.out
       try go_wp2
       refine bodyPost_ret (results_cell_row rfl _ _ gb425 26 #[.string t432, .string t433, .bool t434, .slice (some ⟨go23,0,none⟩) t435.length co36] (0,0) _ rfl (by (with_reducible repeat (first|refine blk_drewN ?_ _|refine blk_drew ?_|refine blk_alloc ?_ _));refine blk_put (cs:= #[.string t432, .string t433, .bool t434, .slice none 0 0]) ?_ 3 _ rfl;(with_reducible repeat (first|refine blk_drewN ?_ _|refine blk_drew ?_|refine blk_alloc ?_ _));refine blk_put (cs:= #[.string t432, .string t433, .bool false, .slice none 0 0]) ?_ 2 _ rfl;(with_reducible repeat (first|refine blk_drewN ?_ _|refine blk_drew ?_|refine blk_alloc ?_ _));refine blk_put (cs:= #[.string t432, .string (⟨#[]⟩:ByteArray), .bool false, .slice none 0 0]) ?_ 1 _ rfl;(with_reducible repeat (first|refine blk_drewN ?_ _|refine blk_drew ?_|refine blk_alloc ?_ _));refine blk_put (cs:= #[.string (⟨#[]⟩:ByteArray), .string (⟨#[]⟩:ByteArray), .bool false, .slice none 0 0]) ?_ 0 _ rfl;(with_reducible repeat (first|refine blk_drewN ?_ _|refine blk_drew ?_|refine blk_alloc ?_ _));exact BK425.out) Try.underlying26 rfl (by kernel_rfl)) rfl ?_
       exact ⟨_,by first|rfl|(simp [errW_none,errW_some] <;> rfl)|(simp [*,errW_none,errW_some] <;> rfl),by (with_reducible repeat (first|apply Kd.N_alloc|apply Kd.N_drewN|apply Kd.N_drew));exact Kd.N_mono (Kd.N_far (p:=⟨gb425,3,none⟩) (Kd.N_far (p:=⟨gb425,2,none⟩) (Kd.N_far (p:=⟨gb425,1,none⟩) (Kd.N_far (p:=⟨gb425,0,none⟩) (Kd.N_mono HO437.out (fun k_ hk=>(⟨hk,hk.2.2.2.1⟩:_∧k_≠gb425))) (fun _ hk=>hk.2) (.string t432)) (fun _ hk=>hk.2) (.string t433)) (fun _ hk=>hk.2) (.bool t434)) (fun _ hk=>hk.2) (.slice (some ⟨go23,0,none⟩) t435.length co36)) (fun _ hk=>hk.1.1),by repeat (first|(with_reducible first|exact HB.out|apply below_alloc|apply pw_below_drewN|apply below_drew1|refine below_set ?_ GE423.out|refine below_set ?_ GE424.out|refine below_set ?_ GE425.out|refine below_set ?_ GE438.out)|exact HB.out)⟩
      ·rw [if_neg c22] at H
       exact absurd H (by simp)
     ·rw [if_neg c20] at H
      exact absurd H (by simp)
    ·rw [if_neg c19] at H
     exact absurd H (by simp)
   ·rw [if_neg c18] at H
    exact absurd H (by simp)
  ·rw [if_neg c17] at H
   exact absurd H (by simp)
end Go.Proofs.Ytakpkmkjhndpjaa.Q
end
section
namespace Go.Proofs.Ytakpkmkjhndpjaa.Q
open Go.RowKit Go.Proofs.YtakpkmkjhndpjaaW.PrintWords Go.Proofs.YtakpkmkjhndpjaaW.PrintLast Go.Proofs.YtakpkmkjhndpjaaW.PrintMore
attribute [local go_sem] max2_int min2_int max_two min_two max_three min_three max_four min_four
set_option linter.unusedVariables false
set_option linter.unusedSimpArgs false
def impl_isLetter.f (a0:Int):Option (Bool):=if a0 ≥ 97 then (if a0≤122 then (some true) else (if a0 ≥ 65 then (some (decide (a0≤90))) else (some false))) else (if a0 ≥ 65 then (some (decide (a0≤90))) else (some false))
set_option maxHeartbeats 8000000 in
set_option maxRecDepth 100000 in
theorem impl_isLetter.calls (a0:Int) (r:Bool) (w:World) (h:impl_isLetter.f a0=some r):
  Calls Try.prog 109 #[.int .u8 a0] w fun e w'=>e= .returned (.bool r)∧Drawn0 w w':=by
 have H:(if a0 ≥ 97 then (if a0≤122 then (some true) else (if a0 ≥ 65 then (some (decide (a0≤90))) else (some false))) else (if a0 ≥ 65 then (some (decide (a0≤90))) else (some false)))=some r:=h
 clear h
 by_cases c2:a0 ≥ 97
 ·rw [if_pos c2] at H
  have c2b0:decide (97≤a0)=true:=decide_eq_true c2
  clear c2
  by_cases c3:a0≤122
  ·rw [if_pos c3] at H
   have c3b0:decide (a0≤122)=true:=decide_eq_true c3
   clear c3
   obtain rfl:=Option.some.inj H
   go_enter Try.func109,Try.ntmps109
   go_wp2
   go_ret
   exact ⟨by first|rfl|(simp;done)|(simp [*];done)|(simp [bne];done)|(simp [bne, *];done),by repeat (first|exact Drawn0.refl _|apply Drawn0.step)⟩
  ·rw [if_neg c3] at H
   have c3b0:decide (a0≤122)=false:=decide_eq_false c3
   clear c3
   by_cases c4:a0 ≥ 65
   ·rw [if_pos c4] at H
    have c4b0:decide (65≤a0)=true:=decide_eq_true c4
    clear c4
    obtain rfl:=Option.some.inj H
    go_enter Try.func109,Try.ntmps109
    go_wp2
    go_ret
    exact ⟨by first|rfl|(simp;done)|(simp [*];done)|(simp [bne];done)|(simp [bne, *];done),by repeat (first|exact Drawn0.refl _|apply Drawn0.step)⟩
   ·rw [if_neg c4] at H
    have c4b0:decide (65≤a0)=false:=decide_eq_false c4
    clear c4
    obtain rfl:=Option.some.inj H
    go_enter Try.func109,Try.ntmps109
    go_wp2
    go_ret
    exact ⟨by first|rfl|(simp;done)|(simp [*];done)|(simp [bne];done)|(simp [bne, *];done),by repeat (first|exact Drawn0.refl _|apply Drawn0.step)⟩
 ·rw [if_neg c2] at H
  have c2b0:decide (97≤a0)=false:=decide_eq_false c2
  clear c2
  by_cases c5:a0 ≥ 65
  ·rw [if_pos c5] at H
   have c5b0:decide (65≤a0)=true:=decide_eq_true c5
   clear c5
   obtain rfl:=Option.some.inj H
   go_enter Try.func109,Try.ntmps109
   go_wp2
   go_ret
   exact ⟨by first|rfl|(simp;done)|(simp [*];done)|(simp [bne];done)|(simp [bne, *];done),by repeat (first|exact Drawn0.refl _|apply Drawn0.step)⟩
  ·rw [if_neg c5] at H
   have c5b0:decide (65≤a0)=false:=decide_eq_false c5
   clear c5
   obtain rfl:=Option.some.inj H
   go_enter Try.func109,Try.ntmps109
   go_wp2
   go_ret
   exact ⟨by first|rfl|(simp;done)|(simp [*];done)|(simp [bne];done)|(simp [bne, *];done),by repeat (first|exact Drawn0.refl _|apply Drawn0.step)⟩
end Go.Proofs.Ytakpkmkjhndpjaa.Q
end
section
namespace Go.Proofs.Ytakpkmkjhndpjaa.Q
open Go.RowKit Go.Proofs.YtakpkmkjhndpjaaW.PrintWords Go.Proofs.YtakpkmkjhndpjaaW.PrintLast Go.Proofs.YtakpkmkjhndpjaaW.PrintMore
attribute [local go_sem] max2_int min2_int max_two min_two max_three min_three max_four min_four
set_option linter.unusedVariables false
set_option linter.unusedSimpArgs false
def impl_isDigit.f (a0:Int):Option (Bool):=if a0 ≥ 48 then (some (decide (a0≤57))) else (some false)
set_option maxHeartbeats 8000000 in
set_option maxRecDepth 100000 in
theorem impl_isDigit.calls (a0:Int) (r:Bool) (w:World) (h:impl_isDigit.f a0=some r):
  Calls Try.prog 118 #[.int .u8 a0] w fun e w'=>e= .returned (.bool r)∧Drawn0 w w':=by
 have H:(if a0 ≥ 48 then (some (decide (a0≤57))) else (some false))=some r:=h
 clear h
 by_cases c2:a0 ≥ 48
 ·rw [if_pos c2] at H
  have c2b0:decide (48≤a0)=true:=decide_eq_true c2
  clear c2
  obtain rfl:=Option.some.inj H
  go_enter Try.func118,Try.ntmps118
  go_wp2
  go_ret
  exact ⟨by first|rfl|(simp;done)|(simp [*];done)|(simp [bne];done)|(simp [bne, *];done),by repeat (first|exact Drawn0.refl _|apply Drawn0.step)⟩
 ·rw [if_neg c2] at H
  have c2b0:decide (48≤a0)=false:=decide_eq_false c2
  clear c2
  obtain rfl:=Option.some.inj H
  go_enter Try.func118,Try.ntmps118
  go_wp2
  go_ret
  exact ⟨by first|rfl|(simp;done)|(simp [*];done)|(simp [bne];done)|(simp [bne, *];done),by repeat (first|exact Drawn0.refl _|apply Drawn0.step)⟩
end Go.Proofs.Ytakpkmkjhndpjaa.Q
end
section
namespace Go.Proofs.Ytakpkmkjhndpjaa.Q
open Go.RowKit Go.Proofs.YtakpkmkjhndpjaaW.PrintWords Go.Proofs.YtakpkmkjhndpjaaW.PrintLast Go.Proofs.YtakpkmkjhndpjaaW.PrintMore
attribute [local go_sem] max2_int min2_int max_two min_two max_three min_three max_four min_four
set_option linter.unusedVariables false
set_option linter.unusedSimpArgs false
def impl_inName.f (a0:Int):Option (Bool):=(impl_isLetter.f a0).bind fun t401=>(if t401=true then (some true) else ((impl_isDigit.f a0).bind fun t402=>(if t402=true then (some true) else (some (a0 == 95)))))
set_option maxHeartbeats 8000000 in
set_option maxRecDepth 100000 in
theorem impl_inName.calls (a0:Int) (r:Bool) (w:World) (h:impl_inName.f a0=some r):
  Calls Try.prog 110 #[.int .u8 a0] w fun e w'=>e= .returned (.bool r)∧Drawn0 w w':=by
 have H:((impl_isLetter.f a0).bind fun t401=>(if t401=true then (some true) else ((impl_isDigit.f a0).bind fun t402=>(if t402=true then (some true) else (some (a0 == 95))))))=some r:=h
 clear h
 replace H:=Option.bind_eq_some_iff.mp H
 obtain ⟨t401,A20,H⟩:=H
 replace H:(if t401=true then (some true) else ((impl_isDigit.f a0).bind fun t402=>(if t402=true then (some true) else (some (a0 == 95)))))=some r:=H
 have A2:=A0_ A20
 clear A20
 by_cases c3:t401=true
 ·subst c3
  have H1:(some true)=some r:=by rw [if_pos rfl] at H;exact H
  clear H
  have H:=H1
  clear H1
  obtain rfl:=Option.some.inj H
  go_enter Try.func110,Try.ntmps110
  go_wp2_with (first|((with_reducible refine gate_callee (f:=109) rfl ?_);refine goesL_ (some 4) rfl rfl Try.func109 (by kernel_rfl) rfl #[.int .u8 a0] rfl (by (try simp only [List.map_toArray,List.map_cons,List.map_nil]);first|done|rfl|(simp only [List.length_drop,List.length_take];rfl)) ?_;(with_reducible refine (impl_isLetter.calls a0 true _ A2.out).mono ?_);rintro e w' ⟨rfl,⟨nd,rfl⟩⟩;refine ⟨_,rfl, ?_⟩))
  go_ret
  exact ⟨by first|rfl|(simp;done)|(simp [*];done)|(simp [bne];done)|(simp [bne, *];done),by repeat (first|exact Drawn0.refl _|apply Drawn0.step)⟩
 ·replace c3:=Bool.eq_false_iff.mpr c3
  subst c3
  have H1:((impl_isDigit.f a0).bind fun t402=>(if t402=true then (some true) else (some (a0 == 95))))=some r:=by rw [if_neg (show ¬ (false=true) by decide)] at H;exact H
  clear H
  have H:=H1
  clear H1
  replace H:=Option.bind_eq_some_iff.mp H
  obtain ⟨t402,A40,H⟩:=H
  replace H:(if t402=true then (some true) else (some (a0 == 95)))=some r:=H
  have A4:=A0_ A40
  clear A40
  by_cases c5:t402=true
  ·subst c5
   have H1:(some true)=some r:=by rw [if_pos rfl] at H;exact H
   clear H
   have H:=H1
   clear H1
   obtain rfl:=Option.some.inj H
   go_enter Try.func110,Try.ntmps110
   go_wp2_with (first|((with_reducible refine gate_callee (f:=109) rfl ?_);refine goesL_ (some 4) rfl rfl Try.func109 (by kernel_rfl) rfl #[.int .u8 a0] rfl (by (try simp only [List.map_toArray,List.map_cons,List.map_nil]);first|done|rfl|(simp only [List.length_drop,List.length_take];rfl)) ?_;(with_reducible refine (impl_isLetter.calls a0 false _ A2.out).mono ?_);rintro e w' ⟨rfl,⟨nd,rfl⟩⟩;refine ⟨_,rfl, ?_⟩)|(go_at_call 118;(with_reducible refine (impl_isDigit.calls a0 true _ A4.out).mono ?_);rintro e w' ⟨rfl,⟨nd,rfl⟩⟩))
   go_ret
   exact ⟨by first|rfl|(simp;done)|(simp [*];done)|(simp [bne];done)|(simp [bne, *];done),by repeat (first|exact Drawn0.refl _|apply Drawn0.step)⟩
  ·replace c5:=Bool.eq_false_iff.mpr c5
   subst c5
   have H1:(some (a0 == 95))=some r:=by rw [if_neg (show ¬ (false=true) by decide)] at H;exact H
   clear H
   have H:=H1
   clear H1
   obtain rfl:=Option.some.inj H
   go_enter Try.func110,Try.ntmps110
   go_wp2_with (first|((with_reducible refine gate_callee (f:=109) rfl ?_);refine goesL_ (some 4) rfl rfl Try.func109 (by kernel_rfl) rfl #[.int .u8 a0] rfl (by (try simp only [List.map_toArray,List.map_cons,List.map_nil]);first|done|rfl|(simp only [List.length_drop,List.length_take];rfl)) ?_;(with_reducible refine (impl_isLetter.calls a0 false _ A2.out).mono ?_);rintro e w' ⟨rfl,⟨nd,rfl⟩⟩;refine ⟨_,rfl, ?_⟩)|(go_at_call 118;(with_reducible refine (impl_isDigit.calls a0 false _ A4.out).mono ?_);rintro e w' ⟨rfl,⟨nd,rfl⟩⟩))
   go_ret
   exact ⟨by first|rfl|(simp;done)|(simp [*];done)|(simp [bne];done)|(simp [bne, *];done),by repeat (first|exact Drawn0.refl _|apply Drawn0.step)⟩
end Go.Proofs.Ytakpkmkjhndpjaa.Q
end
section
namespace Go.Proofs.Ytakpkmkjhndpjaa.Q
open Go.RowKit Go.Proofs.YtakpkmkjhndpjaaW.PrintWords Go.Proofs.YtakpkmkjhndpjaaW.PrintLast Go.Proofs.YtakpkmkjhndpjaaW.PrintMore
attribute [local go_sem] max2_int min2_int max_two min_two max_three min_three max_four min_four
set_option linter.unusedVariables false
set_option linter.unusedSimpArgs false
mutual
def impl_nameOK.j0:Nat→ByteArray→Bool→Option (Bool)
 |0,_,_=>none
 |k + 1,x0,x17=>if x17=true then (some false) else (impl_nameOK.l0 k x0 0)
def impl_nameOK.l0:Nat→ByteArray→Int→Option (Bool)
 |0,_,_=>none
 |k + 1,x0,x3=>if x3 < (x0.size:Int) then (if 0≤x3 then ((impl_inName.f (bt x0 x3)).bind fun t404=>(if t404=true then (impl_nameOK.l0 k x0 (wrap64 (x3 + 1))) else (some false))) else (none)) else (some true)
end
def impl_nameOK.f (k:Nat) (a0:ByteArray):Option (Bool):=if (a0.size:Int) < 1 then (impl_nameOK.j0 k a0 true) else (if (a0.size:Int) > 24 then (impl_nameOK.j0 k a0 true) else (if 0 < (a0.size:Int) then ((impl_isLetter.f (bt a0 0)).bind fun t403=>(impl_nameOK.j0 k a0 (!t403))) else (none)))
set_option maxHeartbeats 8000000 in
set_option maxRecDepth 100000 in
theorem impl_nameOK.calls (k:Nat) (a0:ByteArray) (r:Bool) (w:World) (h:impl_nameOK.f k a0=some r):
  Calls Try.prog 73 #[.string a0] w fun e w'=>e= .returned (.bool r)∧Drawn0 w w':=by
 have H:(if (a0.size:Int) < 1 then (impl_nameOK.j0 k a0 true) else (if (a0.size:Int) > 24 then (impl_nameOK.j0 k a0 true) else (if 0 < (a0.size:Int) then ((impl_isLetter.f (bt a0 0)).bind fun t403=>(impl_nameOK.j0 k a0 (!t403))) else (none))))=some r:=h
 clear h
 have HC2:=A0_ H
 clear H
 go_enter Try.func73,Try.ntmps73
 go_upto_region 1 with (fail)
 go_cut [17] (fun v17 wc=> ∃ (kq:Nat) (x17_1:Bool),v17= .bool x17_1∧Aside0 (impl_nameOK.j0 kq a0 x17_1=some r)∧Aside0 (kq≤k)∧Drawn0 w wc)
 case first=>
  have H:=HC2.out
  clear HC2
  by_cases c3:(a0.size:Int) < 1
  ·rw [if_pos c3] at H
   have c3b0:decide ((a0.size:Int) < 1)=true:=decide_eq_true c3
   have c3b1:decide (a0.size < 1)=true:=decide_eq_true (by omega)
   clear c3
   (first|rw [c3b0] |(simp only [i64_w,i32_w];rw [c3b0])|skip)
   have H':=A0_ H
   clear H
   go_wp2
   go_meet
   case rel=>exact ⟨_,(true),(by first|rfl|(simp;done)|(simp [*];done)|(simp [bne];done)|(simp [bne, *];done)),H',⟨by first|omega|exact Nat.le_refl _⟩,by repeat (first|exact Drawn0.refl _|apply Drawn0.step)⟩
  ·rw [if_neg c3] at H
   have c3b0:decide ((a0.size:Int) < 1)=false:=decide_eq_false c3
   have c3b1:decide (a0.size < 1)=false:=decide_eq_false (by omega)
   clear c3
   (first|rw [c3b0] |(simp only [i64_w,i32_w];rw [c3b0])|skip)
   by_cases c4:(a0.size:Int) > 24
   ·rw [if_pos c4] at H
    have c4b0:decide (24 < (a0.size:Int))=true:=decide_eq_true c4
    have c4b1:decide (24 < a0.size)=true:=decide_eq_true (by omega)
    clear c4
    have H':=A0_ H
    clear H
    go_wp2
    go_meet
    case rel=>exact ⟨_,(true),(by first|rfl|(simp;done)|(simp [*];done)|(simp [bne];done)|(simp [bne, *];done)),H',⟨by first|omega|exact Nat.le_refl _⟩,by repeat (first|exact Drawn0.refl _|apply Drawn0.step)⟩
   ·rw [if_neg c4] at H
    have c4b0:decide (24 < (a0.size:Int))=false:=decide_eq_false c4
    have c4b1:decide (24 < a0.size)=false:=decide_eq_false (by omega)
    clear c4
    by_cases c5:0 < (a0.size:Int)
    ·rw [if_pos c5] at H
     have c5b0:decide (0 < (a0.size:Int))=true:=decide_eq_true c5
     have c5b1:decide (0 < a0.size)=true:=decide_eq_true (by omega)
     clear c5
     replace H:=Option.bind_eq_some_iff.mp H
     obtain ⟨t403,A70,H⟩:=H
     replace H:(impl_nameOK.j0 k a0 (!t403))=some r:=H
     have A7:=A0_ A70
     clear A70
     have H':=A0_ H
     clear H
     have p6:0≤(0:Int):=(by omega)
     have q6:0 < a0.size:=(by have:(0:Int) < (a0.size:Int):=of_decide_eq_true (by first|(with_reducible assumption)|assumption);omega)
     have hx6: ∀ h:0 < a0.size,((a0[0]'h).toNat:Int)=bt a0 0:=bt_at a0 0
     clear p6
     have qi6:(0 < (a0.size:Int))=True:=eq_true (of_decide_eq_true (by first|(with_reducible assumption)|assumption))
     replace q6:=eq_true q6
     go_wp2_with (first|(go_at_call 109;(with_reducible refine (impl_isLetter.calls (bt a0 0) t403 _ A7.out).mono ?_);rintro e w' ⟨rfl,⟨nd,rfl⟩⟩))
     go_meet
     case rel=>exact ⟨_,(!t403),(by first|rfl|(simp;done)|(simp [*];done)|(simp [bne];done)|(simp [bne, *];done)),H',⟨by first|omega|exact Nat.le_refl _⟩,by repeat (first|exact Drawn0.refl _|apply Drawn0.step)⟩
    ·rw [if_neg c5] at H
     exact absurd H (by simp)
 case rest=>
  clear HC2
  try clear p2
  try clear c3
  try clear c3b0
  try clear c3b1
  try clear c4
  try clear c4b0
  try clear c4b1
  try clear c5
  try clear c5b0
  try clear c5b1
  try clear p6
  try clear q6
  try clear hx6
  try clear qi6
  try clear c7
  try clear p6
  try clear q6
  obtain ⟨kq,x17_1,rfl,HA,HJ1,⟨mc1,rfl⟩⟩:=hcut
  cases kq with
  |zero=>exact absurd HA.out (by simp [impl_nameOK.j0])
  |succ kj1=>
   have H:=HA.out
   clear HA
   simp only [impl_nameOK.j0] at H
   by_cases c8:x17_1=true
   ·subst c8
    have H1:(some false)=some r:=by rw [if_pos rfl] at H;exact H
    clear H
    have H:=H1
    clear H1
    obtain rfl:=Option.some.inj H
    go_wp2
    go_ret
    exact ⟨by first|rfl|(simp;done)|(simp [*];done)|(simp [bne];done)|(simp [bne, *];done),by repeat (first|exact Drawn0.refl _|apply Drawn0.step)⟩
   ·replace c8:=Bool.eq_false_iff.mpr c8
    subst c8
    have H1:(impl_nameOK.l0 kj1 a0 0)=some r:=by rw [if_neg (show ¬ (false=true) by decide)] at H;exact H
    clear H
    have H:=H1
    clear H1
    have H':=A0_ H
    clear H
    go_wp2
    go_loopg [3] kj1 (fun kq v3 w'=> ∃ (x3_2:Int),v3= .int .i64 x3_2∧Aside0 (impl_nameOK.l0 kq a0 x3_2=some r)∧Aside0 (kq≤kj1)∧Drawn0 w w')
    case atStart=>exact ⟨(0),(by first|rfl|(simp;done)|(simp [*];done)|(simp [bne];done)|(simp [bne, *];done)),H',⟨Nat.le_refl _⟩,by repeat (first|exact Drawn0.refl _|apply Drawn0.step)⟩
    case round=>
     clear H'
     try clear c1
     try clear p2
     try clear c3
     try clear c3b0
     try clear c3b1
     try clear c4
     try clear c4b0
     try clear c4b1
     try clear c5
     try clear c5b0
     try clear c5b1
     try clear p6
     try clear q6
     try clear hx6
     try clear qi6
     try clear c7
     try clear c8
     try clear p2
     try clear p6
     try clear q6
     obtain ⟨x3_2,rfl,HA,HK2,⟨m2,rfl⟩⟩:=hrel
     cases gk with
     |zero=>exact absurd HA.out (by simp [impl_nameOK.l0])
     |succ k2=>
      have H:=HA.out
      clear HA
      simp only [impl_nameOK.l0] at H
      by_cases c9:x3_2 < (a0.size:Int)
      ·rw [if_pos c9] at H
       have c9b0:decide (x3_2 < (a0.size:Int))=true:=decide_eq_true c9
       clear c9
       by_cases c10:0≤x3_2
       ·rw [if_pos c10] at H
        have c10b0:decide (0≤x3_2)=true:=decide_eq_true c10
        clear c10
        replace H:=Option.bind_eq_some_iff.mp H
        obtain ⟨t404,A120,H⟩:=H
        replace H:(if t404=true then (impl_nameOK.l0 k2 a0 (wrap64 (x3_2 + 1))) else (some false))=some r:=H
        have A12:=A0_ A120
        clear A120
        by_cases c13:t404=true
        ·subst c13
         have H1:(impl_nameOK.l0 k2 a0 (wrap64 (x3_2 + 1)))=some r:=by rw [if_pos rfl] at H;exact H
         clear H
         have H:=H1
         clear H1
         have H':=A0_ H
         clear H
         have p11:0≤(x3_2:Int):=of_decide_eq_true (by first|(with_reducible assumption)|assumption)
         have q11:x3_2 < (a0.size:Int):=of_decide_eq_true (by first|(with_reducible assumption)|assumption)
         have hx11:=bt_at a0 x3_2
         replace p11:=eq_true p11
         replace q11:=eq_true q11
         go_wp2_with (first|((with_reducible refine gate_callee (f:=110) rfl ?_);refine goesL_ (some 27) rfl rfl Try.func110 (by kernel_rfl) rfl #[.int .u8 (bt a0 x3_2)] rfl (by (try simp only [List.map_toArray,List.map_cons,List.map_nil]);first|done|rfl|(simp only [List.length_drop,List.length_take];rfl)) ?_;(with_reducible refine (impl_inName.calls (bt a0 x3_2) true _ A12.out).mono ?_);rintro e w' ⟨rfl,⟨nd,rfl⟩⟩;refine ⟨_,rfl, ?_⟩))
         go_roundg k2
         case measure=>have:=HJ1.out;have:=HK2.out;omega
         case rel=>exact ⟨(wrap64 (x3_2 + 1)),(by first|rfl|(simp;done)|(simp [*];done)|(simp [bne];done)|(simp [bne, *];done)),H',⟨by have:=HJ1.out;have:=HK2.out;omega⟩,by repeat (first|exact Drawn0.refl _|apply Drawn0.step)⟩
        ·replace c13:=Bool.eq_false_iff.mpr c13
         subst c13
         have H1:(some false)=some r:=by rw [if_neg (show ¬ (false=true) by decide)] at H;exact H
         clear H
         have H:=H1
         clear H1
         obtain rfl:=Option.some.inj H
         have p11:0≤(x3_2:Int):=of_decide_eq_true (by first|(with_reducible assumption)|assumption)
         have q11:x3_2 < (a0.size:Int):=of_decide_eq_true (by first|(with_reducible assumption)|assumption)
         have hx11:=bt_at a0 x3_2
         replace p11:=eq_true p11
         replace q11:=eq_true q11
         go_wp2_with (first|((with_reducible refine gate_callee (f:=110) rfl ?_);refine goesL_ (some 27) rfl rfl Try.func110 (by kernel_rfl) rfl #[.int .u8 (bt a0 x3_2)] rfl (by (try simp only [List.map_toArray,List.map_cons,List.map_nil]);first|done|rfl|(simp only [List.length_drop,List.length_take];rfl)) ?_;(with_reducible refine (impl_inName.calls (bt a0 x3_2) false _ A12.out).mono ?_);rintro e w' ⟨rfl,⟨nd,rfl⟩⟩;refine ⟨_,rfl, ?_⟩))
         go_ret
         exact ⟨by first|rfl|(simp;done)|(simp [*];done)|(simp [bne];done)|(simp [bne, *];done),by repeat (first|exact Drawn0.refl _|apply Drawn0.step)⟩
       ·rw [if_neg c10] at H
        exact absurd H (by simp)
      ·rw [if_neg c9] at H
       have c9b0:decide (x3_2 < (a0.size:Int))=false:=decide_eq_false c9
       clear c9
       obtain rfl:=Option.some.inj H
       go_wp2
       go_ret
       exact ⟨by first|rfl|(simp;done)|(simp [*];done)|(simp [bne];done)|(simp [bne, *];done),by repeat (first|exact Drawn0.refl _|apply Drawn0.step)⟩
end Go.Proofs.Ytakpkmkjhndpjaa.Q
end
section
namespace Go.Proofs.Ytakpkmkjhndpjaa.Q
open Go.RowKit Go.Proofs.YtakpkmkjhndpjaaW.PrintWords Go.Proofs.YtakpkmkjhndpjaaW.PrintLast Go.Proofs.YtakpkmkjhndpjaaW.PrintMore
attribute [local go_sem] max2_int min2_int max_two min_two max_three min_three max_four min_four
set_option linter.unusedVariables false
set_option linter.unusedSimpArgs false
mutual
def impl_measure.l0:Nat→Int→Int→Int→Int→List S26→Option (Bool × Int × Int)
  |0,_,_,_,_,_=>none
  |k + 1,i,dp,n,d,l=>if i < (l.length:Int) then (if 0≤i then ((impl_measure.f k (rd_T26 l i).f0 (rd_T26 l i).f1 (rd_T26 l i).f2 (rd_T26 l i).f3 (wrap64 (dp + 1)) n d).bind fun t=>(if t.1=true then (impl_measure.l0 k (wrap64 (i + 1)) dp t.2.1 t.2.2 l) else (some (false,t.2.1,t.2.2)))) else none) else (some (true,n,d))
def impl_measure.f:Nat→ByteArray→ByteArray→Bool→List S26→Int→Int→Int→Option (Bool × Int × Int)
  |0,_,_,_,_,_,_,_=>none
  |k + 1,a0,a1,a2,l,dp,n,d=>
    if wrap64 (n + 1) > 1000 then some (false,wrap64 (n + 1),mx d dp) else
    if dp > 60 then some (false,wrap64 (n + 1),mx d dp) else
    (impl_nameOK.f k a0).bind fun ok=>if ok=true then
      (if a2=true then (if (l.length:Int)=0 then some (decide ((a1.size:Int)≤200),wrap64 (n + 1),mx d dp) else some (false,wrap64 (n + 1),mx d dp)) else
       if a1.toList= [] then (impl_measure.l0 k 0 dp (wrap64 (n + 1)) (mx d dp) l) else some (false,wrap64 (n + 1),mx d dp))
    else some (false,wrap64 (n + 1),mx d dp)
end
def impl_TreeOK.f (k:Nat) (a0 a1:ByteArray) (a2:Bool) (l:List S26):Option Bool:=(impl_measure.f k a0 a1 a2 l 1 0 0).bind fun t=>some t.1
theorem ms_facts {w0 w:World} {ga gb:Nat} {n d:Int} (n1 m:Int) (hB:Below w0.heap.size w0 w) (hga:w.heap[ga]?= some (.cells #[.int .i64 n] 3 (0,0))) (hgb:w.heap[gb]?= some (.cells #[.int .i64 d] 3 (0,0))) (hne:ga≠gb) (ha0:w0.heap.size≤ga) (hb0:w0.heap.size≤gb) (o:Obj) (nd:Nat):
    ((((w.setCell ⟨ga,0,none⟩ (.int .i64 n1)).setCell ⟨gb,0,none⟩ (.int .i64 m)).alloc o).drewN nd).heap[ga]?= some (.cells #[.int .i64 n1] 3 (0,0))∧
    ((((w.setCell ⟨ga,0,none⟩ (.int .i64 n1)).setCell ⟨gb,0,none⟩ (.int .i64 m)).alloc o).drewN nd).heap[gb]?= some (.cells #[.int .i64 m] 3 (0,0))∧
    Below w0.heap.size w0 ((((w.setCell ⟨ga,0,none⟩ (.int .i64 n1)).setCell ⟨gb,0,none⟩ (.int .i64 m)).alloc o).drewN nd)∧
    Kept w ((((w.setCell ⟨ga,0,none⟩ (.int .i64 n1)).setCell ⟨gb,0,none⟩ (.int .i64 m)).alloc o).drewN nd) (fun k=>k=ga∨k=gb):=by
  refine ⟨?_, ?_, ?_, ?_⟩
  · exact blk_drewN (blk_alloc (blk_far (by simpa using blk_set hga 0 (.int .i64 n1)) (p:=⟨gb,0,none⟩) hne _) o) nd
  · exact blk_drewN (blk_alloc (by simpa using blk_set (blk_far hgb (p:=⟨ga,0,none⟩) (fun e=>hne e.symm) (.int .i64 n1)) 0 (.int .i64 m)) o) nd
  · exact pw_below_drewN (below_alloc (below_set (below_set hB ha0) hb0) o) nd
  · exact ((((Kept.refl w _).setCell (.inl (.inl rfl)) _).setCell (.inl (.inr rfl)) _).alloc o).drewN nd
set_option maxHeartbeats 1000000 in
set_option maxRecDepth 100000 in
theorem impl_measure.calls (k:Nat): ∀ (a0 a1:ByteArray) (a2:Bool) (A:Option Addr) (c:Nat) (l:List S26) (dp:Int) (ga gb:Nat) (n d:Int) (r:Bool) (n' d':Int) (w0 w:World)
    (hB:Below w0.heap.size w0 w) (hga:w.heap[ga]?= some (.cells #[.int .i64 n] 3 (0,0))) (hgb:w.heap[gb]?= some (.cells #[.int .i64 d] 3 (0,0))) (hne:ga≠gb) (ha0:w0.heap.size≤ga) (hb0:w0.heap.size≤gb)
    (hr:Kd.C k26 w0 A l.length l) (hc:l.length≤c) (h:impl_measure.f k a0 a1 a2 l dp n d=some (r,n',d')),
    Calls Try.prog 88 #[.agg #[.string a0, .string a1, .bool a2, .slice A l.length c], .int .i64 dp, .pointer (some ⟨ga,0,none⟩), .pointer (some ⟨gb,0,none⟩)] w fun e w'=>
      e= .returned (.bool r)∧w'.heap[ga]?= some (.cells #[.int .i64 n'] 3 (0,0))∧w'.heap[gb]?= some (.cells #[.int .i64 d'] 3 (0,0))∧Below w0.heap.size w0 w'∧Kept w w' (fun k=>k=ga∨k=gb):=by
  induction k using Nat.strongRecOn with
  |_ k ih=>
  intro a0 a1 a2 A c l dp ga gb n d r n' d' w0 w hB hga hgb hne ha0 hb0 hr hc h
  cases k with
  |zero=>exact absurd h (by simp [impl_measure.f])
  |succ k=>
  simp only [impl_measure.f] at h
  obtain ⟨n1,hn1⟩: ∃ x,wrap64 (n + 1)=x:=⟨_,rfl⟩
  obtain ⟨m,hm⟩: ∃ x,mx d dp=x:=⟨_,rfl⟩
  simp only [hn1,hm] at h
  have hm_:(if d < dp then dp else d)=m:=hm
  clear hm
  have WF:=ms_facts (w0:=w0) (w:=w) n1 m hB hga hgb hne ha0 hb0
  have hca:w.cell? ⟨ga,0,none⟩=some (.int .i64 n):=(blk_cell hga 0).trans rfl
  have hcb:w.cell? ⟨gb,0,none⟩=some (.int .i64 d):=(blk_cell hgb 0).trans rfl
  have hla:=blk_lt hga
  have hlb:=blk_lt hgb
  have hne':gb≠ga:=fun e=>hne e.symm
  have hfa:=blk_frozen hga 0
  have hfb:=blk_frozen hgb 0
  have HWF:=A0_ WF
  have HIH:=A0_ ih
  have HR:=A0_ hr
  have HC:=A0_ hc
  clear hga hgb ih WF hr hc
  by_cases c1:n1 > 1000
  · rw [if_pos c1] at h
    have c1b:decide (1000 < n1)=true:=decide_eq_true c1
    clear c1
    simp only [Option.some.injEq,Prod.mk.injEq] at h
    obtain ⟨rfl,rfl,rfl⟩:=h
    go_enter Try.func88,Try.ntmps88
    go_wp2
    go_ret
    exact ⟨rfl,HWF.out _ 0⟩
  · rw [if_neg c1] at h
    have c1b:decide (1000 < n1)=false:=decide_eq_false c1
    clear c1
    by_cases c2:dp > 60
    · rw [if_pos c2] at h
      have c2b:decide (60 < dp)=true:=decide_eq_true c2
      clear c2
      simp only [Option.some.injEq,Prod.mk.injEq] at h
      obtain ⟨rfl,rfl,rfl⟩:=h
      go_enter Try.func88,Try.ntmps88
      go_wp2
      go_ret
      exact ⟨rfl,HWF.out _ 0⟩
    · rw [if_neg c2] at h
      have c2b:decide (60 < dp)=false:=decide_eq_false c2
      clear c2
      obtain ⟨ok,hok,h⟩:=Option.bind_eq_some_iff.mp h
      have HOK:=A0_ hok
      clear hok
      cases ok with
      |false=>
        rw [if_neg (by decide)] at h
        simp only [Option.some.injEq,Prod.mk.injEq] at h
        obtain ⟨rfl,rfl,rfl⟩:=h
        go_enter Try.func88,Try.ntmps88
        go_wp2_with (go_at_call 73;refine (impl_nameOK.calls k a0 false _ HOK.out).mono ?_;rintro e w' ⟨rfl,⟨nd,rfl⟩⟩)
        go_ret
        exact ⟨rfl,HWF.out _ nd⟩
      |true=>
        rw [if_pos rfl] at h
        cases a2 with
        |true=>
          rw [if_pos rfl] at h
          by_cases c3:(l.length:Int)=0
          · rw [if_pos c3] at h
            have c3b:((l.length:Int) == 0)=true:=beq_iff_eq.mpr c3
            clear c3
            simp only [Option.some.injEq,Prod.mk.injEq] at h
            obtain ⟨rfl,rfl,rfl⟩:=h
            go_enter Try.func88,Try.ntmps88
            go_wp2_with (go_at_call 73;refine (impl_nameOK.calls k a0 true _ HOK.out).mono ?_;rintro e w' ⟨rfl,⟨nd,rfl⟩⟩)
            go_ret
            exact ⟨rfl,HWF.out _ nd⟩
          · rw [if_neg c3] at h
            have c3b:((l.length:Int) == 0)=false:=beq_eq_false_iff_ne.mpr c3
            clear c3
            simp only [Option.some.injEq,Prod.mk.injEq] at h
            obtain ⟨rfl,rfl,rfl⟩:=h
            go_enter Try.func88,Try.ntmps88
            go_wp2_with (go_at_call 73;refine (impl_nameOK.calls k a0 true _ HOK.out).mono ?_;rintro e w' ⟨rfl,⟨nd,rfl⟩⟩)
            go_ret
            exact ⟨rfl,HWF.out _ nd⟩
        |false=>
          rw [if_neg (by decide)] at h
          by_cases c4:a1.toList= []
          · rw [if_pos c4] at h
            have c4b:(a1.toList == ([]:List UInt8))=true:=beq_iff_eq.mpr c4
            have c4c:(a1.toList != ([]:List UInt8))=false:=by rw [c4];rfl
            have c4d:a1.toList.isEmpty=true:=by rw [c4];rfl
            clear c4
            have H:=A0_ h
            clear h
            go_enter Try.func88,Try.ntmps88
            go_wp2_with (go_at_call 73;refine (impl_nameOK.calls k a0 true _ HOK.out).mono ?_;rintro e w' ⟨rfl,⟨nd,rfl⟩⟩)
            have hW:=HWF.out (.cells #[.string a0, .string a1, .bool false, .slice A l.length c] 26) nd
            go_loopg [55] k (fun kq v55 w'=> ∃ (i n2 d2:Int),v55= .int .i64 i∧Aside0 (impl_measure.l0 kq i dp n2 d2 l=some (r,n',d'))∧Aside0 (kq≤k)∧Aside0 (w'.heap[ga]?= some (.cells #[.int .i64 n2] 3 (0,0)))∧Aside0 (w'.heap[gb]?= some (.cells #[.int .i64 d2] 3 (0,0)))∧Aside0 (Below w0.heap.size w0 w')∧Aside0 (Kept w w' (fun k=>k=ga∨k=gb)))
            case atStart=>exact ⟨0,n1,m,rfl,H,⟨Nat.le_refl _⟩,⟨hW.1⟩,⟨hW.2.1⟩,⟨hW.2.2.1⟩,⟨hW.2.2.2⟩⟩
            case round=>
              clear H hW HWF hca hcb hm_
              obtain ⟨i,n2,d2,rfl,HA,HK1,HGA,HGB,HB,HK⟩:=hrel
              cases gk with
              |zero=>exact absurd HA.out (by simp [impl_measure.l0])
              |succ k1=>
                have h:=HA.out
                clear HA
                simp only [impl_measure.l0] at h
                by_cases c5:i < (l.length:Int)
                · rw [if_pos c5] at h
                  have c5b:decide (i < (l.length:Int))=true:=decide_eq_true c5
                  clear c5
                  by_cases c6:0≤i
                  · rw [if_pos c6] at h
                    obtain ⟨⟨b,n3,d3⟩,h1,h⟩:=Option.bind_eq_some_iff.mp h
                    have H1:=A0_ h1
                    have H:=A0_ h
                    clear h1 h
                    have hla':=blk_lt HGA.out
                    have hlb':=blk_lt HGB.out
                    have p:=c6
                    have q:i < (l.length:Int):=of_decide_eq_true c5b
                    obtain ⟨ad,Ak,ck,e,hx0,hx1,hx2,hx3,hl,hi⟩:=at_T26 HR.out i p q
                    cases e
                    replace hx0:=(HB.out.cell (World.block_lt_of_cell? w0 _ hx0)).trans hx0
                    replace hx1:=(HB.out.cell (World.block_lt_of_cell? w0 _ hx1)).trans hx1
                    replace hx2:=(HB.out.cell (World.block_lt_of_cell? w0 _ hx2)).trans hx2
                    replace hx3:=(HB.out.cell (World.block_lt_of_cell? w0 _ hx3)).trans hx3
                    have HI:=A0_ hi
                    have HL:=A0_ hl
                    clear hi hl
                    replace p:=eq_true p
                    replace q:=eq_true q
                    have HKA:=A0_ (HK.out.alloc (.cells #[.string ((rd_T26 l i).f0), .string ((rd_T26 l i).f1), .bool ((rd_T26 l i).f2), .slice Ak ((rd_T26 l i).f3).length ck] 26))
                    cases b with
                    |true=>
                      have H:=A0_ ((if_pos rfl).symm.trans H.out)
                      go_wp2_with (go_at_call 88;refine (HIH.out k1 (by have:=HK1.out;omega) _ _ _ _ _ _ (wrap64 (dp + 1)) ga gb n2 d2 true n3 d3 w0 _ (below_alloc HB.out _) (blk_alloc HGA.out _) (blk_alloc HGB.out _) hne ha0 hb0 HI.out HL.out H1.out).mono ?_;rintro e w2 ⟨rfl,g1,g2,g3,g4⟩;have G1:=A0_ g1;have G2:=A0_ g2;have G3:=A0_ g3;have G4:=A0_ (Kept.then_ HKA.out g4 (fun _ h=> .inl h));clear g1 g2 g3 g4)
                      go_roundg k1
                      case measure=>have:=HK1.out;omega
                      case rel=>exact ⟨wrap64 (i + 1),n3,d3,rfl,H,⟨by have:=HK1.out;omega⟩,G1,G2,G3,G4⟩
                    |false=>
                      have h:=(if_neg Bool.false_ne_true).symm.trans H.out
                      simp only [Option.some.injEq,Prod.mk.injEq] at h
                      obtain ⟨rfl,rfl,rfl⟩:=h
                      go_wp2_with (go_at_call 88;refine (HIH.out k1 (by have:=HK1.out;omega) _ _ _ _ _ _ (wrap64 (dp + 1)) ga gb n2 d2 false n3 d3 w0 _ (below_alloc HB.out _) (blk_alloc HGA.out _) (blk_alloc HGB.out _) hne ha0 hb0 HI.out HL.out H1.out).mono ?_;rintro e w2 ⟨rfl,g1,g2,g3,g4⟩;have G1:=A0_ g1;have G2:=A0_ g2;have G3:=A0_ g3;have G4:=A0_ (Kept.then_ HKA.out g4 (fun _ h=> .inl h));clear g1 g2 g3 g4)
                      go_ret
                      exact ⟨rfl,G1.out,G2.out,G3.out,G4.out⟩
                  · rw [if_neg c6] at h
                    exact absurd h (by simp)
                · rw [if_neg c5] at h
                  have c5b:decide (i < (l.length:Int))=false:=decide_eq_false c5
                  clear c5
                  simp only [Option.some.injEq,Prod.mk.injEq] at h
                  obtain ⟨rfl,rfl,rfl⟩:=h
                  go_wp2
                  go_ret
                  exact ⟨rfl,HGA.out,HGB.out,HB.out,HK.out⟩
          · rw [if_neg c4] at h
            have c4b:(a1.toList == ([]:List UInt8))=false:=beq_eq_false_iff_ne.mpr c4
            have c4c:(a1.toList != ([]:List UInt8))=true:=by rw [bne,c4b];rfl
            have c4d:a1.toList.isEmpty=false:=by cases e:a1.toList with|nil=>exact absurd e c4|cons=>rfl
            simp only [Option.some.injEq,Prod.mk.injEq] at h
            obtain ⟨rfl,rfl,rfl⟩:=h
            go_enter Try.func88,Try.ntmps88
            go_wp2_with (go_at_call 73;refine (impl_nameOK.calls k a0 true _ HOK.out).mono ?_;rintro e w' ⟨rfl,⟨nd,rfl⟩⟩)
            go_ret
            exact ⟨rfl,HWF.out _ nd⟩
theorem impl_TreeOK.calls (k:Nat) (a0_0:ByteArray) (a0_1:ByteArray) (a0_2:Bool) (A0_3:Option Addr) (c0_3:Nat) (l0_3:List (S26)) (r:Bool) (w:World) (hr0_3:Kd.C k26 w A0_3 l0_3.length l0_3) (hc0_3:l0_3.length≤c0_3) (h:impl_TreeOK.f k a0_0 a0_1 a0_2 l0_3=some r):
    Calls Try.prog 45 #[.agg #[.string a0_0, .string a0_1, .bool a0_2, .slice A0_3 l0_3.length c0_3]] w fun e w'=>e= .returned (.bool r)∧Below w.heap.size w w':=by
  obtain ⟨⟨b,n,d⟩,h1,h2⟩:=Option.bind_eq_some_iff.mp h
  obtain rfl:b=r:=Option.some.inj h2
  have H1:=A0_ h1
  have HR:=A0_ hr0_3
  have HC:=A0_ hc0_3
  clear h h1 h2 hr0_3 hc0_3
  have g1:(((w.alloc (.cells #[.string a0_0, .string a0_1, .bool a0_2, .slice A0_3 l0_3.length c0_3] 26)).alloc (.cells #[.int .i64 0] 3)).alloc (.cells #[.int .i64 0] 3)).heap[w.heap.size + 1]?= some (.cells #[.int .i64 0] 3 (0,0)):=by
    have h:=blk_alloc (blk_new (w.alloc (.cells #[.string a0_0, .string a0_1, .bool a0_2, .slice A0_3 l0_3.length c0_3] 26)) (.cells #[.int .i64 0] 3)) (.cells #[.int .i64 0] 3)
    simpa using h
  have g2:(((w.alloc (.cells #[.string a0_0, .string a0_1, .bool a0_2, .slice A0_3 l0_3.length c0_3] 26)).alloc (.cells #[.int .i64 0] 3)).alloc (.cells #[.int .i64 0] 3)).heap[w.heap.size + 1 + 1]?= some (.cells #[.int .i64 0] 3 (0,0)):=by
    have h:=blk_new ((w.alloc (.cells #[.string a0_0, .string a0_1, .bool a0_2, .slice A0_3 l0_3.length c0_3] 26)).alloc (.cells #[.int .i64 0] 3)) (.cells #[.int .i64 0] 3)
    simpa using h
  have G1:=A0_ g1
  have G2:=A0_ g2
  clear g1 g2
  go_enter Try.func45,Try.ntmps45
  go_wp2_with (go_at_call 88;refine (impl_measure.calls k _ _ _ _ _ _ 1 (w.heap.size + 1) (w.heap.size + 1 + 1) 0 0 b n d w _ (below_alloc (below_alloc (below_alloc (Below.refl _ _) _) _) _) G1.out G2.out (by omega) (by omega) (by omega) HR.out HC.out H1.out).mono ?_;rintro e w2 ⟨rfl,g1,g2,g3,g4⟩;have G3:=A0_ g3;clear g1 g2 g3 g4)
  go_ret
  exact ⟨rfl,G3.out⟩
end Go.Proofs.Ytakpkmkjhndpjaa.Q
end
section
namespace Go.Proofs.Ytakpkmkjhndpjaa.Q
open Go.RowKit Go.Proofs.YtakpkmkjhndpjaaW.PrintWords Go.Proofs.YtakpkmkjhndpjaaW.PrintLast Go.Proofs.YtakpkmkjhndpjaaW.PrintMore
attribute [local go_sem] max2_int min2_int max_two min_two max_three min_three max_four min_four
set_option linter.unusedVariables false
set_option linter.unusedSimpArgs false
def impl_TreePut.j0:Nat→List Int→Bool→ByteArray→ByteArray→Bool→List (S26)→ByteArray→ByteArray→Bool→List (S26)→Option (ByteArray × ByteArray × Bool × (List (S26)) × Int)
 |0,_,_,_,_,_,_,_,_,_,_=>none
 |k + 1,x1,x18,x451000,x451001,x451002,x451003,x452000,x452001,x452002,x452003=>if x18=true then (some ((⟨#[]⟩:ByteArray),(⟨#[]⟩:ByteArray),false,([]:List (S26)),1)) else ((impl_at.f k x451000 x451001 x451002 x451003 x1).bind fun bt455=>(if bt455.2.2.2.2=true then ((impl_put.f k x451000 x451001 x451002 x451003 x1 x452000 x452001 x452002 x452003).bind fun bt463=>((impl_TreeOK.f k bt463.1 bt463.2.1 bt463.2.2.1 bt463.2.2.2).bind fun t470=>(if t470=true then (some (bt463.1,bt463.2.1,bt463.2.2.1,bt463.2.2.2,0)) else (some ((⟨#[]⟩:ByteArray),(⟨#[]⟩:ByteArray),false,([]:List (S26)),3))))) else (some ((⟨#[]⟩:ByteArray),(⟨#[]⟩:ByteArray),false,([]:List (S26)),4))))
def impl_TreePut.f (k:Nat) (a0_0:ByteArray) (a0_1:ByteArray) (a0_2:Bool) (l0_3:List (S26)) (l1:List Int) (a2_0:ByteArray) (a2_1:ByteArray) (a2_2:Bool) (l2_3:List (S26)):Option (ByteArray × ByteArray × Bool × (List (S26)) × Int):=(impl_TreeOK.f k a0_0 a0_1 a0_2 l0_3).bind fun t453=>(if t453=true then ((impl_TreeOK.f k a2_0 a2_1 a2_2 l2_3).bind fun t454=>(impl_TreePut.j0 k l1 (!t454) a0_0 a0_1 a0_2 l0_3 a2_0 a2_1 a2_2 l2_3)) else (impl_TreePut.j0 k l1 true a0_0 a0_1 a0_2 l0_3 a2_0 a2_1 a2_2 l2_3))
set_option maxHeartbeats 8000000 in
set_option maxRecDepth 100000 in
theorem impl_TreePut.calls (k:Nat) (a0_0:ByteArray) (a0_1:ByteArray) (a0_2:Bool) (P0_3_:Nat→Prop) (A0_3:Option Addr) (c0_3:Nat) (l0_3:List (S26)) (A1:Option Addr) (c1:Nat) (l1:List Int) (a2_0:ByteArray) (a2_1:ByteArray) (a2_2:Bool) (A2_3:Option Addr) (c2_3:Nat) (l2_3:List (S26)) (r1:ByteArray) (r2:ByteArray) (r3:Bool) (r4:List (S26)) (r5:Int) (w:World) (hs0_3:Kd.V k26 26 w w.heap.size (fun k_=>P0_3_ k_) (.slice A0_3 l0_3.length c0_3) l0_3) (hr1:Kd.C (Kd.int .i64) w A1 l1.length l1) (hc1:l1.length≤c1) (hr2_3:Kd.C k26 w A2_3 l2_3.length l2_3) (hc2_3:l2_3.length≤c2_3) (h:impl_TreePut.f k a0_0 a0_1 a0_2 l0_3 l1 a2_0 a2_1 a2_2 l2_3=some (r1,r2,r3,r4,r5)):
  Calls Try.prog 11 #[.agg #[.string a0_0, .string a0_1, .bool a0_2, .slice A0_3 l0_3.length c0_3], .slice A1 l1.length c1, .agg #[.string a2_0, .string a2_1, .bool a2_2, .slice A2_3 l2_3.length c2_3]] w fun e w'=> ∃ v3_:Value,e= .returned (.tuple #[.agg #[.string r1, .string r2, .bool r3,v3_], .int .i64 r5])∧Kd.N k26 26 w' w.heap.size (fun k_=>(P0_3_ k_∨w.heap.size≤k_)) v3_ r4∧Below w.heap.size w w':=by
 have hu26:=Try.underlying26
 have HO0_3:=A0_ (show Kd.V k26 26 w w.heap.size (fun k_=>(P0_3_ k_∨w.heap.size≤k_)) (.slice A0_3 l0_3.length c0_3) l0_3 from Kd.V_mono hs0_3 (fun k_ hk=> .inl hk))
 have HR1:=A0_ hr1
 have HC1:=A0_ hc1
 clear hr1 hc1
 have HR2_3:=A0_ hr2_3
 have HC2_3:=A0_ hc2_3
 clear hr2_3 hc2_3
 have HB:=A0_ (Below.refl w.heap.size w)
 have H:((impl_TreeOK.f k a0_0 a0_1 a0_2 l0_3).bind fun t453=>(if t453=true then ((impl_TreeOK.f k a2_0 a2_1 a2_2 l2_3).bind fun t454=>(impl_TreePut.j0 k l1 (!t454) a0_0 a0_1 a0_2 l0_3 a2_0 a2_1 a2_2 l2_3)) else (impl_TreePut.j0 k l1 true a0_0 a0_1 a0_2 l0_3 a2_0 a2_1 a2_2 l2_3)))=some (r1,r2,r3,r4,r5):=h
 clear h
 have HC4:=A0_ H
 clear H
 go_enter Try.func11,Try.ntmps11
 go_upto_region 1 with (first|((with_reducible refine gate_dst (N:=3) rfl ?_);refine box_event ?hg (N:=3) ?hd (cs:= #[.string a0_0, .string a0_1, .bool a0_2, .slice A0_3 l0_3.length c0_3]) (t:=26) ?hr ?_;(case hd=>rfl);(case hg=>rfl);(case hr=>first|(go_simp;done)|(go_simp;rfl));intro gb450 hg w5 hbox hb;replace HO0_3:=A0_ (Kd.V_below (Kd.V_elderB HO0_3.out gb450 (Nat.le_of_eq hg.symm)) hb);have BK450:=A0_ (hbox);have GW450:=A0_ ((by rw [hg];exact (below_size HB.out):w.heap.size≤gb450));have GE450:=A0_ ((by rw [hg];exact (below_size HB.out):w.heap.size≤gb450));replace HB:=A0_ (below_step HB.out hb);clear hb hbox hg)|((with_reducible refine gate_dst (N:=5) rfl ?_);refine box_event ?hg (N:=5) ?hd (cs:= #[.string a2_0, .string a2_1, .bool a2_2, .slice A2_3 l2_3.length c2_3]) (t:=26) ?hr ?_;(case hd=>rfl);(case hg=>rfl);(case hr=>first|(go_simp;done)|(go_simp;rfl));intro gb451 hg w6 hbox hb;replace HO0_3:=A0_ (Kd.V_below (Kd.V_elderB HO0_3.out gb451 (Nat.le_of_eq hg.symm)) hb);have BK451:=A0_ (hbox);have GW451:=A0_ ((by rw [hg];exact (below_size HB.out):w.heap.size≤gb451));have GE451:=A0_ ((by rw [hg];exact (below_size HB.out):w.heap.size≤gb451));replace HB:=A0_ (below_step HB.out hb);have NB450_451:=A0_ ((by rw [hg];exact Nat.ne_of_lt (blk_lt BK450.out):gb450≠gb451));have NB451_450:=A0_ ((by rw [hg];exact Nat.ne_of_gt (blk_lt BK450.out):gb451≠gb450));replace BK450:=A0_ (blk_below BK450.out hb);clear hb hbox hg)|((with_reducible refine gate_dst (N:=6) rfl ?_);refine box_event ?hg (N:=6) ?hd (cs:= #[.string (⟨#[]⟩:ByteArray), .string (⟨#[]⟩:ByteArray), .bool false, .slice none 0 0]) (t:=26) ?hr ?_;(case hd=>rfl);(case hg=>rfl);(case hr=>first|(go_simp;done)|(go_simp;rfl));intro gb452 hg w7 hbox hb;replace HO0_3:=A0_ (Kd.V_below (Kd.V_elderB HO0_3.out gb452 (Nat.le_of_eq hg.symm)) hb);have BK452:=A0_ (hbox);have GW452:=A0_ ((by rw [hg];exact (below_size HB.out):w.heap.size≤gb452));have GE452:=A0_ ((by rw [hg];exact (below_size HB.out):w.heap.size≤gb452));replace HB:=A0_ (below_step HB.out hb);have NB450_452:=A0_ ((by rw [hg];exact Nat.ne_of_lt (blk_lt BK450.out):gb450≠gb452));have NB452_450:=A0_ ((by rw [hg];exact Nat.ne_of_gt (blk_lt BK450.out):gb452≠gb450));replace BK450:=A0_ (blk_below BK450.out hb);have NB451_452:=A0_ ((by rw [hg];exact Nat.ne_of_lt (blk_lt BK451.out):gb451≠gb452));have NB452_451:=A0_ ((by rw [hg];exact Nat.ne_of_gt (blk_lt BK451.out):gb452≠gb451));replace BK451:=A0_ (blk_below BK451.out hb);clear hb hbox hg))
 (try simp only [Act.put,List.setIfInBounds_toArray,List.set_cons_zero,List.set_cons_succ])
 go_cut [18] (fun v18 wc=> ∃ (kq:Nat) (x18_3:Bool),v18= .bool x18_3∧Aside0 (impl_TreePut.j0 kq l1 x18_3 a0_0 a0_1 a0_2 l0_3 a2_0 a2_1 a2_2 l2_3=some (r1,r2,r3,r4,r5))∧Aside0 (kq≤k)∧Aside0 (Kd.V k26 26 wc w.heap.size (fun k_=>(P0_3_ k_∨w.heap.size≤k_)∧k_≠gb450∧k_≠gb451∧k_≠gb452) (.slice A0_3 l0_3.length c0_3) l0_3)∧Aside0 (wc.heap[gb450]?= some (.cells #[.string a0_0, .string a0_1, .bool a0_2,(.slice A0_3 l0_3.length c0_3)] 26 (0,0)))∧Aside0 (wc.heap[gb451]?= some (.cells #[.string a2_0, .string a2_1, .bool a2_2,(.slice A2_3 l2_3.length c2_3)] 26 (0,0)))∧Aside0 (wc.heap[gb452]?= some (.cells #[.string (⟨#[]⟩:ByteArray), .string (⟨#[]⟩:ByteArray), .bool false,(.slice none 0 0)] 26 (0,0)))∧Aside0 (Below w.heap.size w wc))
 case first=>
  have H:=HC4.out
  clear HC4
  replace H:=Option.bind_eq_some_iff.mp H
  obtain ⟨t453,A80,H⟩:=H
  replace H:(if t453=true then ((impl_TreeOK.f k a2_0 a2_1 a2_2 l2_3).bind fun t454=>(impl_TreePut.j0 k l1 (!t454) a0_0 a0_1 a0_2 l0_3 a2_0 a2_1 a2_2 l2_3)) else (impl_TreePut.j0 k l1 true a0_0 a0_1 a0_2 l0_3 a2_0 a2_1 a2_2 l2_3))=some (r1,r2,r3,r4,r5):=H
  have A8:=A0_ A80
  clear A80
  by_cases c9:t453=true
  ·subst c9
   have H1:((impl_TreeOK.f k a2_0 a2_1 a2_2 l2_3).bind fun t454=>(impl_TreePut.j0 k l1 (!t454) a0_0 a0_1 a0_2 l0_3 a2_0 a2_1 a2_2 l2_3))=some (r1,r2,r3,r4,r5):=by rw [if_pos rfl] at H;exact H
   clear H
   have H:=H1
   clear H1
   replace H:=Option.bind_eq_some_iff.mp H
   obtain ⟨t454,A100,H⟩:=H
   replace H:(impl_TreePut.j0 k l1 (!t454) a0_0 a0_1 a0_2 l0_3 a2_0 a2_1 a2_2 l2_3)=some (r1,r2,r3,r4,r5):=H
   have A10:=A0_ A100
   clear A100
   have H':=A0_ H
   clear H
   have hnb11:=NB450_451.out
   have hnc11:=NB451_450.out
   have hnb12:=NB450_452.out
   have hnc12:=NB452_450.out
   obtain ⟨hcz13_0,hcz13_1,hcz13_2,hcz13_3⟩:=bc4_ BK450.out
   obtain ⟨hfz13_0,hfz13_1,hfz13_2,hfz13_3⟩:=bf4_ BK450.out
   go_wp2_with (first|((with_reducible refine gate_callee (f:=45) rfl ?_);refine goesL_ (some 12) rfl rfl Try.func45 (by kernel_rfl) rfl #[.agg #[.string a0_0, .string a0_1, .bool a0_2, .slice A0_3 l0_3.length c0_3]] rfl (by (try simp only [List.map_toArray,List.map_cons,List.map_nil]);first|done|rfl|(simp only [List.length_drop,List.length_take];rfl)) ?_;(with_reducible refine (impl_TreeOK.calls k a0_0 a0_1 a0_2 _ _ l0_3 true _ ?side1 ?side2 A8.out).mono ?_);(case side1=>repeat (first|exact (Kd.V_reads' HO0_3.out).2.2|(with_reducible refine Kd.C_alloc ?_ _)|(with_reducible refine Kd.C_drewN ?_ _)|(with_reducible refine Kd.C_drew ?_)));(case side2=>exact (Kd.V_reads' HO0_3.out).2.1);rintro e w14 ⟨rfl,hb⟩;refine ⟨_,rfl, ?_⟩;replace HO0_3:=A0_ (Kd.V_below HO0_3.out hb);replace BK450:=A0_ (blk_below BK450.out hb);replace BK451:=A0_ (blk_below BK451.out hb);replace BK452:=A0_ (blk_below BK452.out hb);replace HB:=A0_ (below_step HB.out hb);(try clear hb);(try clear hb2);(try clear hk);(try clear hi);have hnb15:=NB451_452.out;have hnc15:=NB452_451.out;obtain ⟨hcz16_0,hcz16_1,hcz16_2,hcz16_3⟩:=bc4_ BK451.out;obtain ⟨hfz16_0,hfz16_1,hfz16_2,hfz16_3⟩:=bf4_ BK451.out)|(go_at_call 45;(with_reducible refine (impl_TreeOK.calls k a2_0 a2_1 a2_2 _ _ l2_3 t454 _ ?side1 ?side2 A10.out).mono ?_);(case side1=>repeat (first|exact (Kd.C_below HR2_3.out HB.out)|(with_reducible refine Kd.C_alloc ?_ _)|(with_reducible refine Kd.C_drewN ?_ _)|(with_reducible refine Kd.C_drew ?_)));(case side2=>exact HC2_3.out);rintro e w17 ⟨rfl,hb⟩;replace HO0_3:=A0_ (Kd.V_below HO0_3.out hb);replace BK450:=A0_ (blk_below BK450.out hb);replace BK451:=A0_ (blk_below BK451.out hb);replace BK452:=A0_ (blk_below BK452.out hb);replace HB:=A0_ (below_step HB.out hb);(try clear hb);(try clear hb2);(try clear hk);(try clear hi)))
   go_meet
   case rel=>exact ⟨_,(!t454),(by first|rfl|(simp;done)|(simp [*];done)|(simp [bne];done)|(simp [bne, *];done)),H',⟨by first|omega|exact Nat.le_refl _⟩,⟨by (with_reducible repeat (first|apply Kd.V_alloc|apply Kd.V_drewN|apply Kd.V_drew));exact Kd.V_mono HO0_3.out (fun _ hk=>⟨hk.1.1.1,⟨hk.1.1.2,⟨hk.1.2,hk.2⟩⟩⟩)⟩,⟨by (with_reducible repeat (first|refine blk_drewN ?_ _|refine blk_drew ?_|refine blk_alloc ?_ _));exact BK450.out⟩,⟨by (with_reducible repeat (first|refine blk_drewN ?_ _|refine blk_drew ?_|refine blk_alloc ?_ _));exact BK451.out⟩,⟨by (with_reducible repeat (first|refine blk_drewN ?_ _|refine blk_drew ?_|refine blk_alloc ?_ _));exact BK452.out⟩,⟨by repeat (first|(with_reducible first|exact HB.out|apply below_alloc|apply pw_below_drewN|apply below_drew1|refine below_set ?_ GE450.out|refine below_set ?_ GE451.out|refine below_set ?_ GE452.out)|exact HB.out)⟩⟩
  ·replace c9:=Bool.eq_false_iff.mpr c9
   subst c9
   have H1:(impl_TreePut.j0 k l1 true a0_0 a0_1 a0_2 l0_3 a2_0 a2_1 a2_2 l2_3)=some (r1,r2,r3,r4,r5):=by rw [if_neg (show ¬ (false=true) by decide)] at H;exact H
   clear H
   have H:=H1
   clear H1
   have H':=A0_ H
   clear H
   have hnb18:=NB450_451.out
   have hnc18:=NB451_450.out
   have hnb19:=NB450_452.out
   have hnc19:=NB452_450.out
   obtain ⟨hcz20_0,hcz20_1,hcz20_2,hcz20_3⟩:=bc4_ BK450.out
   obtain ⟨hfz20_0,hfz20_1,hfz20_2,hfz20_3⟩:=bf4_ BK450.out
   go_wp2_with (first|((with_reducible refine gate_callee (f:=45) rfl ?_);refine goesL_ (some 12) rfl rfl Try.func45 (by kernel_rfl) rfl #[.agg #[.string a0_0, .string a0_1, .bool a0_2, .slice A0_3 l0_3.length c0_3]] rfl (by (try simp only [List.map_toArray,List.map_cons,List.map_nil]);first|done|rfl|(simp only [List.length_drop,List.length_take];rfl)) ?_;(with_reducible refine (impl_TreeOK.calls k a0_0 a0_1 a0_2 _ _ l0_3 false _ ?side1 ?side2 A8.out).mono ?_);(case side1=>repeat (first|exact (Kd.V_reads' HO0_3.out).2.2|(with_reducible refine Kd.C_alloc ?_ _)|(with_reducible refine Kd.C_drewN ?_ _)|(with_reducible refine Kd.C_drew ?_)));(case side2=>exact (Kd.V_reads' HO0_3.out).2.1);rintro e w21 ⟨rfl,hb⟩;refine ⟨_,rfl, ?_⟩;replace HO0_3:=A0_ (Kd.V_below HO0_3.out hb);replace BK450:=A0_ (blk_below BK450.out hb);replace BK451:=A0_ (blk_below BK451.out hb);replace BK452:=A0_ (blk_below BK452.out hb);replace HB:=A0_ (below_step HB.out hb);(try clear hb);(try clear hb2);(try clear hk);(try clear hi)))
   go_meet
   case rel=>exact ⟨_,(true),(by first|rfl|(simp;done)|(simp [*];done)|(simp [bne];done)|(simp [bne, *];done)),H',⟨by first|omega|exact Nat.le_refl _⟩,⟨by (with_reducible repeat (first|apply Kd.V_alloc|apply Kd.V_drewN|apply Kd.V_drew));exact Kd.V_mono HO0_3.out (fun _ hk=>⟨hk.1.1.1,⟨hk.1.1.2,⟨hk.1.2,hk.2⟩⟩⟩)⟩,⟨by (with_reducible repeat (first|refine blk_drewN ?_ _|refine blk_drew ?_|refine blk_alloc ?_ _));exact BK450.out⟩,⟨by (with_reducible repeat (first|refine blk_drewN ?_ _|refine blk_drew ?_|refine blk_alloc ?_ _));exact BK451.out⟩,⟨by (with_reducible repeat (first|refine blk_drewN ?_ _|refine blk_drew ?_|refine blk_alloc ?_ _));exact BK452.out⟩,⟨by repeat (first|(with_reducible first|exact HB.out|apply below_alloc|apply pw_below_drewN|apply below_drew1|refine below_set ?_ GE450.out|refine below_set ?_ GE451.out|refine below_set ?_ GE452.out)|exact HB.out)⟩⟩
 case rest=>
  clear HC4
  try clear c1
  try clear c2
  try clear p2
  try clear c4
  try clear c9
  try clear c11
  try clear c12
  try clear c15
  try clear c18
  try clear c19
  try clear hcz13_0
  try clear hcz13_1
  try clear hcz13_2
  try clear hcz13_3
  try clear hcz16_0
  try clear hcz16_1
  try clear hcz16_2
  try clear hcz16_3
  try clear hcz20_0
  try clear hcz20_1
  try clear hcz20_2
  try clear hcz20_3
  try clear hfz13_0
  try clear hfz13_1
  try clear hfz13_2
  try clear hfz13_3
  try clear hfz16_0
  try clear hfz16_1
  try clear hfz16_2
  try clear hfz16_3
  try clear hfz20_0
  try clear hfz20_1
  try clear hfz20_2
  try clear hfz20_3
  obtain ⟨kq,x18_3,rfl,HA,HJ3,HO_451003,BK450,BK451,BK452,HB⟩:=hcut
  cases kq with
  |zero=>exact absurd HA.out (by simp [impl_TreePut.j0])
  |succ kj3=>
   have H:=HA.out
   clear HA
   simp only [impl_TreePut.j0] at H
   by_cases c22:x18_3=true
   ·subst c22
    have H1:(some ((⟨#[]⟩:ByteArray),(⟨#[]⟩:ByteArray),false,([]:List (S26)),1))=some (r1,r2,r3,r4,r5):=by rw [if_pos rfl] at H;exact H
    clear H
    have H:=H1
    clear H1
    simp only [Option.some.injEq,Prod.mk.injEq] at H
    obtain ⟨rfl,rfl,rfl,rfl,rfl⟩:=H
    have hnb23:=NB452_450.out
    have hnc23:=NB450_452.out
    have hnb24:=NB452_451.out
    have hnc24:=NB451_452.out
    obtain ⟨hcz25_0,hcz25_1,hcz25_2,hcz25_3⟩:=bc4_ BK452.out
    obtain ⟨hfz25_0,hfz25_1,hfz25_2,hfz25_3⟩:=bf4_ BK452.out
    go_wp2
    refine bodyPost_ret (results_ct rfl _ _ gb452 26 #[.string (⟨#[]⟩:ByteArray), .string (⟨#[]⟩:ByteArray), .bool false, .slice none 0 0] (0,0) _ rfl (by (with_reducible repeat (first|refine blk_drewN ?_ _|refine blk_drew ?_|refine blk_alloc ?_ _));refine blk_put (cs:= #[.string (⟨#[]⟩:ByteArray), .string (⟨#[]⟩:ByteArray), .bool false, .slice none 0 0]) ?_ 3 _ rfl;(with_reducible repeat (first|refine blk_drewN ?_ _|refine blk_drew ?_|refine blk_alloc ?_ _));refine blk_put (cs:= #[.string (⟨#[]⟩:ByteArray), .string (⟨#[]⟩:ByteArray), .bool false, .slice none 0 0]) ?_ 2 _ rfl;(with_reducible repeat (first|refine blk_drewN ?_ _|refine blk_drew ?_|refine blk_alloc ?_ _));refine blk_put (cs:= #[.string (⟨#[]⟩:ByteArray), .string (⟨#[]⟩:ByteArray), .bool false, .slice none 0 0]) ?_ 1 _ rfl;(with_reducible repeat (first|refine blk_drewN ?_ _|refine blk_drew ?_|refine blk_alloc ?_ _));refine blk_put (cs:= #[.string (⟨#[]⟩:ByteArray), .string (⟨#[]⟩:ByteArray), .bool false, .slice none 0 0]) ?_ 0 _ rfl;(with_reducible repeat (first|refine blk_drewN ?_ _|refine blk_drew ?_|refine blk_alloc ?_ _));exact BK452.out) Try.underlying26 rfl (by kernel_rfl)) rfl ?_
    exact ⟨_,by first|rfl|(simp [errW_none,errW_some] <;> rfl)|(simp [*,errW_none,errW_some] <;> rfl),by first|exact Kd.R_nil _ _ _ _ _|exact Kd.N_nil _ _ _ _ _|exact Kd.V_nil _ _ _ _ _|exact Kd.Q_nil _ _ _ _ _|exact Kd.S_nil _ _ _ _ _,by repeat (first|(with_reducible first|exact HB.out|apply below_alloc|apply pw_below_drewN|apply below_drew1|refine below_set ?_ GE450.out|refine below_set ?_ GE451.out|refine below_set ?_ GE452.out)|exact HB.out)⟩
   ·replace c22:=Bool.eq_false_iff.mpr c22
    subst c22
    have H1:((impl_at.f kj3 a0_0 a0_1 a0_2 l0_3 l1).bind fun bt455=>(if bt455.2.2.2.2=true then ((impl_put.f kj3 a0_0 a0_1 a0_2 l0_3 l1 a2_0 a2_1 a2_2 l2_3).bind fun bt463=>((impl_TreeOK.f kj3 bt463.1 bt463.2.1 bt463.2.2.1 bt463.2.2.2).bind fun t470=>(if t470=true then (some (bt463.1,bt463.2.1,bt463.2.2.1,bt463.2.2.2,0)) else (some ((⟨#[]⟩:ByteArray),(⟨#[]⟩:ByteArray),false,([]:List (S26)),3))))) else (some ((⟨#[]⟩:ByteArray),(⟨#[]⟩:ByteArray),false,([]:List (S26)),4))))=some (r1,r2,r3,r4,r5):=by rw [if_neg (show ¬ (false=true) by decide)] at H;exact H
    clear H
    have H:=H1
    clear H1
    replace H:=Option.bind_eq_some_iff.mp H
    obtain ⟨⟨t455,t456,t457,t458,t461⟩,A260,H⟩:=H
    replace H:(if t461=true then ((impl_put.f kj3 a0_0 a0_1 a0_2 l0_3 l1 a2_0 a2_1 a2_2 l2_3).bind fun bt463=>((impl_TreeOK.f kj3 bt463.1 bt463.2.1 bt463.2.2.1 bt463.2.2.2).bind fun t470=>(if t470=true then (some (bt463.1,bt463.2.1,bt463.2.2.1,bt463.2.2.2,0)) else (some ((⟨#[]⟩:ByteArray),(⟨#[]⟩:ByteArray),false,([]:List (S26)),3))))) else (some ((⟨#[]⟩:ByteArray),(⟨#[]⟩:ByteArray),false,([]:List (S26)),4)))=some (r1,r2,r3,r4,r5):=H
    have A26:=A0_ A260
    clear A260
    by_cases c27:t461=true
    ·subst c27
     have H1:((impl_put.f kj3 a0_0 a0_1 a0_2 l0_3 l1 a2_0 a2_1 a2_2 l2_3).bind fun bt463=>((impl_TreeOK.f kj3 bt463.1 bt463.2.1 bt463.2.2.1 bt463.2.2.2).bind fun t470=>(if t470=true then (some (bt463.1,bt463.2.1,bt463.2.2.1,bt463.2.2.2,0)) else (some ((⟨#[]⟩:ByteArray),(⟨#[]⟩:ByteArray),false,([]:List (S26)),3)))))=some (r1,r2,r3,r4,r5):=by rw [if_pos rfl] at H;exact H
     clear H
     have H:=H1
     clear H1
     replace H:=Option.bind_eq_some_iff.mp H
     obtain ⟨⟨t463,t464,t465,t466⟩,A280,H⟩:=H
     replace H:((impl_TreeOK.f kj3 t463 t464 t465 t466).bind fun t470=>(if t470=true then (some (t463,t464,t465,t466,0)) else (some ((⟨#[]⟩:ByteArray),(⟨#[]⟩:ByteArray),false,([]:List (S26)),3))))=some (r1,r2,r3,r4,r5):=H
     have A28:=A0_ A280
     clear A280
     replace H:=Option.bind_eq_some_iff.mp H
     obtain ⟨t470,A290,H⟩:=H
     replace H:(if t470=true then (some (t463,t464,t465,t466,0)) else (some ((⟨#[]⟩:ByteArray),(⟨#[]⟩:ByteArray),false,([]:List (S26)),3)))=some (r1,r2,r3,r4,r5):=H
     have A29:=A0_ A290
     clear A290
     by_cases c30:t470=true
     ·subst c30
      have H1:(some (t463,t464,t465,t466,0))=some (r1,r2,r3,r4,r5):=by rw [if_pos rfl] at H;exact H
      clear H
      have H:=H1
      clear H1
      simp only [Option.some.injEq,Prod.mk.injEq] at H
      obtain ⟨rfl,rfl,rfl,rfl,rfl⟩:=H
      have hnb31:=NB450_451.out
      have hnc31:=NB451_450.out
      have hnb32:=NB450_452.out
      have hnc32:=NB452_450.out
      obtain ⟨hcz33_0,hcz33_1,hcz33_2,hcz33_3⟩:=bc4_ BK450.out
      obtain ⟨hfz33_0,hfz33_1,hfz33_2,hfz33_3⟩:=bf4_ BK450.out
      go_wp2_with (first|((with_reducible refine gate_callee (f:=46) rfl ?_);refine goesL_ (some 23) rfl rfl Try.func46 (by kernel_rfl) rfl #[.agg #[.string a0_0, .string a0_1, .bool a0_2, .slice A0_3 l0_3.length c0_3], .slice A1 l1.length c1] rfl (by (try simp only [List.map_toArray,List.map_cons,List.map_nil]);first|done|rfl|(simp only [List.length_drop,List.length_take];rfl)) ?_;(with_reducible refine (impl_at.calls kj3 a0_0 a0_1 a0_2 (fun k_=>((P0_3_ k_∨w.heap.size≤k_)∧(k_≠gb450∧(k_≠gb451∧k_≠gb452)))) _ _ l0_3 _ _ l1 t455 t456 t457 t458 true _ ?side1 ?side2 ?side3 A26.out).mono ?_);(case side1=>exact HO_451003.out);(case side2=>repeat (first|exact (Kd.C_below HR1.out HB.out)|(with_reducible refine Kd.C_alloc ?_ _)|(with_reducible refine Kd.C_drewN ?_ _)|(with_reducible refine Kd.C_drew ?_)));(case side3=>exact HC1.out);rintro e w34 ⟨v459,rfl,ho0,hb⟩;refine ⟨_,rfl, ?_⟩;replace HO_451003:=A0_ (Kd.V_below HO_451003.out hb);have HO460:=A0_ (Kd.V_lower (Kd.V_mono (ok':=fun k_=>(P0_3_ k_∨w.heap.size≤k_)∧k_≠gb450∧k_≠gb451∧k_≠gb452) ho0 (fun k_ hk_=>⟨Or.elim hk_ (fun hs_=>(by first|exact hs_.1|(have hk0_:=hs_;revert hk0_;(try simp only [and_imp]);intros;(repeat' apply And.intro) <;> assumption))) (fun hn_=>(.inr (Nat.le_trans (below_size HB.out) hn_))),Or.elim hk_ (fun hs_=>(by first|exact hs_.2.1|(have hk0_:=hs_;revert hk0_;(try simp only [and_imp]);intros;(repeat' apply And.intro) <;> assumption))) (fun hn_=>(Kd.freshB BK450.out k_ hn_)),Or.elim hk_ (fun hs_=>(by first|exact hs_.2.2.1|(have hk0_:=hs_;revert hk0_;(try simp only [and_imp]);intros;(repeat' apply And.intro) <;> assumption))) (fun hn_=>(Kd.freshB BK451.out k_ hn_)),Or.elim hk_ (fun hs_=>(by first|exact hs_.2.2.2|(have hk0_:=hs_;revert hk0_;(try simp only [and_imp]);intros;(repeat' apply And.intro) <;> assumption))) (fun hn_=>(Kd.freshB BK452.out k_ hn_))⟩)) (below_size HB.out));replace BK450:=A0_ (blk_below BK450.out hb);replace BK451:=A0_ (blk_below BK451.out hb);replace BK452:=A0_ (blk_below BK452.out hb);replace HB:=A0_ (below_step HB.out hb);(try clear hb);(try clear hb2);(try clear hk);(try clear hi);(try clear ho0))|((with_reducible refine gate_dst (N:=8) rfl ?_);refine box_event ?hg (N:=8) ?hd (cs:= #[.string (⟨#[]⟩:ByteArray), .string (⟨#[]⟩:ByteArray), .bool false, .slice none 0 0]) (t:=26) ?hr ?_;(case hd=>rfl);(case hg=>rfl);(case hr=>first|(go_simp;done)|(go_simp;rfl));intro gb462 hg w35 hbox hb;replace HO_451003:=A0_ (Kd.V_below (Kd.V_elderB HO_451003.out gb462 (Nat.le_of_eq hg.symm)) hb);replace HO460:=A0_ (Kd.V_below (Kd.V_elderB HO460.out gb462 (Nat.le_of_eq hg.symm)) hb);have BK462:=A0_ (hbox);have GW462:=A0_ ((by rw [hg];exact (below_size HB.out):w.heap.size≤gb462));have GE462:=A0_ ((by rw [hg];exact (below_size HB.out):w.heap.size≤gb462));replace HB:=A0_ (below_step HB.out hb);have NB450_462:=A0_ ((by rw [hg];exact Nat.ne_of_lt (blk_lt BK450.out):gb450≠gb462));have NB462_450:=A0_ ((by rw [hg];exact Nat.ne_of_gt (blk_lt BK450.out):gb462≠gb450));replace BK450:=A0_ (blk_below BK450.out hb);have NB451_462:=A0_ ((by rw [hg];exact Nat.ne_of_lt (blk_lt BK451.out):gb451≠gb462));have NB462_451:=A0_ ((by rw [hg];exact Nat.ne_of_gt (blk_lt BK451.out):gb462≠gb451));replace BK451:=A0_ (blk_below BK451.out hb);have NB452_462:=A0_ ((by rw [hg];exact Nat.ne_of_lt (blk_lt BK452.out):gb452≠gb462));have NB462_452:=A0_ ((by rw [hg];exact Nat.ne_of_gt (blk_lt BK452.out):gb462≠gb452));replace BK452:=A0_ (blk_below BK452.out hb);clear hb hbox hg;have hnb36:=NB462_450.out;have hnc36:=NB450_462.out;have hnb37:=NB462_451.out;have hnc37:=NB451_462.out;have hnb38:=NB462_452.out;have hnc38:=NB452_462.out;obtain ⟨hcz39_0,hcz39_1,hcz39_2,hcz39_3⟩:=bc4_ BK462.out;obtain ⟨hfz39_0,hfz39_1,hfz39_2,hfz39_3⟩:=bf4_ BK462.out;obtain ⟨Ao40,co40,eo40⟩:=Kd.V_slice HO460.out;subst eo40;obtain ⟨hcz41_0,hcz41_1,hcz41_2,hcz41_3⟩:=bc4_ BK450.out;obtain ⟨hfz41_0,hfz41_1,hfz41_2,hfz41_3⟩:=bf4_ BK450.out;have hnb42:=NB451_452.out;have hnc42:=NB452_451.out;obtain ⟨hcz43_0,hcz43_1,hcz43_2,hcz43_3⟩:=bc4_ BK451.out;obtain ⟨hfz43_0,hfz43_1,hfz43_2,hfz43_3⟩:=bf4_ BK451.out)|((with_reducible refine gate_callee (f:=47) rfl ?_);refine goesL_ (some 32) rfl rfl Try.func47 (by kernel_rfl) rfl #[.agg #[.string a0_0, .string a0_1, .bool a0_2, .slice A0_3 l0_3.length c0_3], .slice A1 l1.length c1, .agg #[.string a2_0, .string a2_1, .bool a2_2, .slice A2_3 l2_3.length c2_3]] rfl (by (try simp only [List.map_toArray,List.map_cons,List.map_nil]);first|done|rfl|(simp only [List.length_drop,List.length_take];rfl)) ?_;(with_reducible refine (impl_put.calls kj3 a0_0 a0_1 a0_2 _ _ l0_3 _ _ l1 a2_0 a2_1 a2_2 _ _ l2_3 t463 t464 t465 t466 _ ?side1 ?side2 ?side3 ?side4 ?side5 ?side6 A28.out).mono ?_);(case side1=>refine (Kd.V_reads' (e:=26) (base:=w.heap.size) (ok:=fun k_=>(((P0_3_ k_∨w.heap.size≤k_)∧(k_≠gb450∧(k_≠gb451∧k_≠gb452)))∧k_≠gb462)) (n:=l0_3.length) (c:=c0_3) ?_).2.2;exact (Kd.V_mono (Kd.V_far (p:=⟨gb462,3,none⟩) (Kd.V_far (p:=⟨gb462,2,none⟩) (Kd.V_far (p:=⟨gb462,1,none⟩) (Kd.V_far (p:=⟨gb462,0,none⟩) (Kd.V_mono HO_451003.out (fun k_ hk=>(⟨hk,hk.2⟩:_∧k_≠gb462))) (fun _ hk=>hk.2) (.string t455)) (fun _ hk=>hk.2) (.string t456)) (fun _ hk=>hk.2) (.bool t457)) (fun _ hk=>hk.2) (.slice Ao40 t458.length co40)) (fun _ h_=>h_.1)));(case side2=>exact (Kd.V_reads' HO_451003.out).2.1);(case side3=>exact Kd.C_below HR1.out (by repeat (first|(with_reducible first|exact HB.out|apply below_alloc|apply pw_below_drewN|apply below_drew1|refine below_set ?_ GE450.out|refine below_set ?_ GE451.out|refine below_set ?_ GE452.out|refine below_set ?_ GE462.out)|exact HB.out)));(case side4=>exact HC1.out);(case side5=>exact Kd.C_below HR2_3.out (by repeat (first|(with_reducible first|exact HB.out|apply below_alloc|apply pw_below_drewN|apply below_drew1|refine below_set ?_ GE450.out|refine below_set ?_ GE451.out|refine below_set ?_ GE452.out|refine below_set ?_ GE462.out)|exact HB.out)));(case side6=>exact HC2_3.out);rintro e w44 ⟨v467,rfl,ho0,hb⟩;refine ⟨_,rfl, ?_⟩;replace HO_451003:=A0_ (Kd.V_elder' (Kd.V_mono (Kd.V_far (p:=⟨gb462,3,none⟩) (Kd.V_far (p:=⟨gb462,2,none⟩) (Kd.V_far (p:=⟨gb462,1,none⟩) (Kd.V_far (p:=⟨gb462,0,none⟩) (Kd.V_mono HO_451003.out (fun k_ hk=>(⟨hk,hk.2⟩:_∧k_≠gb462))) (fun _ hk=>hk.2) (.string t455)) (fun _ hk=>hk.2) (.string t456)) (fun _ hk=>hk.2) (.bool t457)) (fun _ hk=>hk.2) (.slice Ao40 t458.length co40)) (fun _ h_=>h_.1)) (Kd.N_base ho0) hb);replace HO460:=A0_ (Kd.V_elder' (Kd.V_mono (Kd.V_far (p:=⟨gb462,3,none⟩) (Kd.V_far (p:=⟨gb462,2,none⟩) (Kd.V_far (p:=⟨gb462,1,none⟩) (Kd.V_far (p:=⟨gb462,0,none⟩) (Kd.V_mono HO460.out (fun k_ hk=>(⟨hk,hk.2⟩:_∧k_≠gb462))) (fun _ hk=>hk.2) (.string t455)) (fun _ hk=>hk.2) (.string t456)) (fun _ hk=>hk.2) (.bool t457)) (fun _ hk=>hk.2) (.slice Ao40 t458.length co40)) (fun _ h_=>h_.1)) (Kd.N_base ho0) hb);have HO468:=A0_ (Kd.N_lower (Kd.N_mono (ok':=fun k_=>(P0_3_ k_∨w.heap.size≤k_)∧k_≠gb450∧k_≠gb451∧k_≠gb452∧k_≠gb462) ho0 (fun k_ hk_=>⟨(.inr (Nat.le_trans (below_size (by repeat (first|(with_reducible first|exact HB.out|apply below_alloc|apply pw_below_drewN|apply below_drew1|refine below_set ?_ GE450.out|refine below_set ?_ GE451.out|refine below_set ?_ GE452.out|refine below_set ?_ GE462.out)|exact HB.out))) hk_)),(Kd.freshB (g:=gb450) (o:= .cells #[.string a0_0, .string a0_1, .bool a0_2, .slice A0_3 l0_3.length c0_3] 26 (0,0)) (by (with_reducible repeat (first|refine blk_drewN ?_ _|refine blk_drew ?_|refine blk_alloc ?_ _));refine blk_far ?_ NB450_462.out _;(with_reducible repeat (first|refine blk_drewN ?_ _|refine blk_drew ?_|refine blk_alloc ?_ _));refine blk_far ?_ NB450_462.out _;(with_reducible repeat (first|refine blk_drewN ?_ _|refine blk_drew ?_|refine blk_alloc ?_ _));refine blk_far ?_ NB450_462.out _;(with_reducible repeat (first|refine blk_drewN ?_ _|refine blk_drew ?_|refine blk_alloc ?_ _));refine blk_far ?_ NB450_462.out _;(with_reducible repeat (first|refine blk_drewN ?_ _|refine blk_drew ?_|refine blk_alloc ?_ _));exact BK450.out) k_ hk_),(Kd.freshB (g:=gb451) (o:= .cells #[.string a2_0, .string a2_1, .bool a2_2, .slice A2_3 l2_3.length c2_3] 26 (0,0)) (by (with_reducible repeat (first|refine blk_drewN ?_ _|refine blk_drew ?_|refine blk_alloc ?_ _));refine blk_far ?_ NB451_462.out _;(with_reducible repeat (first|refine blk_drewN ?_ _|refine blk_drew ?_|refine blk_alloc ?_ _));refine blk_far ?_ NB451_462.out _;(with_reducible repeat (first|refine blk_drewN ?_ _|refine blk_drew ?_|refine blk_alloc ?_ _));refine blk_far ?_ NB451_462.out _;(with_reducible repeat (first|refine blk_drewN ?_ _|refine blk_drew ?_|refine blk_alloc ?_ _));refine blk_far ?_ NB451_462.out _;(with_reducible repeat (first|refine blk_drewN ?_ _|refine blk_drew ?_|refine blk_alloc ?_ _));exact BK451.out) k_ hk_),(Kd.freshB (g:=gb452) (o:= .cells #[.string (⟨#[]⟩:ByteArray), .string (⟨#[]⟩:ByteArray), .bool false, .slice none 0 0] 26 (0,0)) (by (with_reducible repeat (first|refine blk_drewN ?_ _|refine blk_drew ?_|refine blk_alloc ?_ _));refine blk_far ?_ NB452_462.out _;(with_reducible repeat (first|refine blk_drewN ?_ _|refine blk_drew ?_|refine blk_alloc ?_ _));refine blk_far ?_ NB452_462.out _;(with_reducible repeat (first|refine blk_drewN ?_ _|refine blk_drew ?_|refine blk_alloc ?_ _));refine blk_far ?_ NB452_462.out _;(with_reducible repeat (first|refine blk_drewN ?_ _|refine blk_drew ?_|refine blk_alloc ?_ _));refine blk_far ?_ NB452_462.out _;(with_reducible repeat (first|refine blk_drewN ?_ _|refine blk_drew ?_|refine blk_alloc ?_ _));exact BK452.out) k_ hk_),(Kd.freshB (g:=gb462) (o:= .cells #[.string t455, .string t456, .bool t457, .slice Ao40 t458.length co40] 26 (0,0)) (by (with_reducible repeat (first|refine blk_drewN ?_ _|refine blk_drew ?_|refine blk_alloc ?_ _));refine blk_put (cs:= #[.string t455, .string t456, .bool t457, .slice none 0 0]) ?_ 3 _ rfl;(with_reducible repeat (first|refine blk_drewN ?_ _|refine blk_drew ?_|refine blk_alloc ?_ _));refine blk_put (cs:= #[.string t455, .string t456, .bool false, .slice none 0 0]) ?_ 2 _ rfl;(with_reducible repeat (first|refine blk_drewN ?_ _|refine blk_drew ?_|refine blk_alloc ?_ _));refine blk_put (cs:= #[.string t455, .string (⟨#[]⟩:ByteArray), .bool false, .slice none 0 0]) ?_ 1 _ rfl;(with_reducible repeat (first|refine blk_drewN ?_ _|refine blk_drew ?_|refine blk_alloc ?_ _));refine blk_put (cs:= #[.string (⟨#[]⟩:ByteArray), .string (⟨#[]⟩:ByteArray), .bool false, .slice none 0 0]) ?_ 0 _ rfl;(with_reducible repeat (first|refine blk_drewN ?_ _|refine blk_drew ?_|refine blk_alloc ?_ _));exact BK462.out) k_ hk_)⟩)) (below_size (by repeat (first|(with_reducible first|exact HB.out|apply below_alloc|apply pw_below_drewN|apply below_drew1|refine below_set ?_ GE450.out|refine below_set ?_ GE451.out|refine below_set ?_ GE452.out|refine below_set ?_ GE462.out)|exact HB.out))));replace BK450:=A0_ (blk_below (g:=gb450) (o:= .cells #[.string a0_0, .string a0_1, .bool a0_2, .slice A0_3 l0_3.length c0_3] 26 (0,0)) (by (with_reducible repeat (first|refine blk_drewN ?_ _|refine blk_drew ?_|refine blk_alloc ?_ _));refine blk_far ?_ NB450_462.out _;(with_reducible repeat (first|refine blk_drewN ?_ _|refine blk_drew ?_|refine blk_alloc ?_ _));refine blk_far ?_ NB450_462.out _;(with_reducible repeat (first|refine blk_drewN ?_ _|refine blk_drew ?_|refine blk_alloc ?_ _));refine blk_far ?_ NB450_462.out _;(with_reducible repeat (first|refine blk_drewN ?_ _|refine blk_drew ?_|refine blk_alloc ?_ _));refine blk_far ?_ NB450_462.out _;(with_reducible repeat (first|refine blk_drewN ?_ _|refine blk_drew ?_|refine blk_alloc ?_ _));exact BK450.out) hb);replace BK451:=A0_ (blk_below (g:=gb451) (o:= .cells #[.string a2_0, .string a2_1, .bool a2_2, .slice A2_3 l2_3.length c2_3] 26 (0,0)) (by (with_reducible repeat (first|refine blk_drewN ?_ _|refine blk_drew ?_|refine blk_alloc ?_ _));refine blk_far ?_ NB451_462.out _;(with_reducible repeat (first|refine blk_drewN ?_ _|refine blk_drew ?_|refine blk_alloc ?_ _));refine blk_far ?_ NB451_462.out _;(with_reducible repeat (first|refine blk_drewN ?_ _|refine blk_drew ?_|refine blk_alloc ?_ _));refine blk_far ?_ NB451_462.out _;(with_reducible repeat (first|refine blk_drewN ?_ _|refine blk_drew ?_|refine blk_alloc ?_ _));refine blk_far ?_ NB451_462.out _;(with_reducible repeat (first|refine blk_drewN ?_ _|refine blk_drew ?_|refine blk_alloc ?_ _));exact BK451.out) hb);replace BK452:=A0_ (blk_below (g:=gb452) (o:= .cells #[.string (⟨#[]⟩:ByteArray), .string (⟨#[]⟩:ByteArray), .bool false, .slice none 0 0] 26 (0,0)) (by (with_reducible repeat (first|refine blk_drewN ?_ _|refine blk_drew ?_|refine blk_alloc ?_ _));refine blk_far ?_ NB452_462.out _;(with_reducible repeat (first|refine blk_drewN ?_ _|refine blk_drew ?_|refine blk_alloc ?_ _));refine blk_far ?_ NB452_462.out _;(with_reducible repeat (first|refine blk_drewN ?_ _|refine blk_drew ?_|refine blk_alloc ?_ _));refine blk_far ?_ NB452_462.out _;(with_reducible repeat (first|refine blk_drewN ?_ _|refine blk_drew ?_|refine blk_alloc ?_ _));refine blk_far ?_ NB452_462.out _;(with_reducible repeat (first|refine blk_drewN ?_ _|refine blk_drew ?_|refine blk_alloc ?_ _));exact BK452.out) hb);replace BK462:=A0_ (blk_below (g:=gb462) (o:= .cells #[.string t455, .string t456, .bool t457, .slice Ao40 t458.length co40] 26 (0,0)) (by (with_reducible repeat (first|refine blk_drewN ?_ _|refine blk_drew ?_|refine blk_alloc ?_ _));refine blk_put (cs:= #[.string t455, .string t456, .bool t457, .slice none 0 0]) ?_ 3 _ rfl;(with_reducible repeat (first|refine blk_drewN ?_ _|refine blk_drew ?_|refine blk_alloc ?_ _));refine blk_put (cs:= #[.string t455, .string t456, .bool false, .slice none 0 0]) ?_ 2 _ rfl;(with_reducible repeat (first|refine blk_drewN ?_ _|refine blk_drew ?_|refine blk_alloc ?_ _));refine blk_put (cs:= #[.string t455, .string (⟨#[]⟩:ByteArray), .bool false, .slice none 0 0]) ?_ 1 _ rfl;(with_reducible repeat (first|refine blk_drewN ?_ _|refine blk_drew ?_|refine blk_alloc ?_ _));refine blk_put (cs:= #[.string (⟨#[]⟩:ByteArray), .string (⟨#[]⟩:ByteArray), .bool false, .slice none 0 0]) ?_ 0 _ rfl;(with_reducible repeat (first|refine blk_drewN ?_ _|refine blk_drew ?_|refine blk_alloc ?_ _));exact BK462.out) hb);replace HB:=A0_ (below_step (by repeat (first|(with_reducible first|exact HB.out|apply below_alloc|apply pw_below_drewN|apply below_drew1|refine below_set ?_ GE450.out|refine below_set ?_ GE451.out|refine below_set ?_ GE452.out|refine below_set ?_ GE462.out)|exact HB.out)) hb);(try clear hb);(try clear hb2);(try clear hk);(try clear hi);(try clear ho0))|((with_reducible refine gate_dst (N:=10) rfl ?_);refine box_event ?hg (N:=10) ?hd (cs:= #[.string (⟨#[]⟩:ByteArray), .string (⟨#[]⟩:ByteArray), .bool false, .slice none 0 0]) (t:=26) ?hr ?_;(case hd=>rfl);(case hg=>rfl);(case hr=>first|(go_simp;done)|(go_simp;rfl));intro gb469 hg w45 hbox hb;replace HO_451003:=A0_ (Kd.V_below (Kd.V_elderB HO_451003.out gb469 (Nat.le_of_eq hg.symm)) hb);replace HO460:=A0_ (Kd.V_below (Kd.V_elderB HO460.out gb469 (Nat.le_of_eq hg.symm)) hb);replace HO468:=A0_ (Kd.N_below (Kd.N_elderB HO468.out gb469 (Nat.le_of_eq hg.symm)) hb);have BK469:=A0_ (hbox);have GW469:=A0_ ((by rw [hg];exact (below_size HB.out):w.heap.size≤gb469));have GE469:=A0_ ((by rw [hg];exact (below_size HB.out):w.heap.size≤gb469));replace HB:=A0_ (below_step HB.out hb);have NB450_469:=A0_ ((by rw [hg];exact Nat.ne_of_lt (blk_lt BK450.out):gb450≠gb469));have NB469_450:=A0_ ((by rw [hg];exact Nat.ne_of_gt (blk_lt BK450.out):gb469≠gb450));replace BK450:=A0_ (blk_below BK450.out hb);have NB451_469:=A0_ ((by rw [hg];exact Nat.ne_of_lt (blk_lt BK451.out):gb451≠gb469));have NB469_451:=A0_ ((by rw [hg];exact Nat.ne_of_gt (blk_lt BK451.out):gb469≠gb451));replace BK451:=A0_ (blk_below BK451.out hb);have NB452_469:=A0_ ((by rw [hg];exact Nat.ne_of_lt (blk_lt BK452.out):gb452≠gb469));have NB469_452:=A0_ ((by rw [hg];exact Nat.ne_of_gt (blk_lt BK452.out):gb469≠gb452));replace BK452:=A0_ (blk_below BK452.out hb);have NB462_469:=A0_ ((by rw [hg];exact Nat.ne_of_lt (blk_lt BK462.out):gb462≠gb469));have NB469_462:=A0_ ((by rw [hg];exact Nat.ne_of_gt (blk_lt BK462.out):gb469≠gb462));replace BK462:=A0_ (blk_below BK462.out hb);clear hb hbox hg;have hnb46:=NB469_450.out;have hnc46:=NB450_469.out;have hnb47:=NB469_451.out;have hnc47:=NB451_469.out;have hnb48:=NB469_452.out;have hnc48:=NB452_469.out;have hnb49:=NB469_462.out;have hnc49:=NB462_469.out;obtain ⟨hcz50_0,hcz50_1,hcz50_2,hcz50_3⟩:=bc4_ BK469.out;obtain ⟨hfz50_0,hfz50_1,hfz50_2,hfz50_3⟩:=bf4_ BK469.out;obtain ⟨Ao51,co51,eo51⟩:=Kd.N_slice HO468.out;subst eo51)|((with_reducible refine gate_callee (f:=45) rfl ?_);refine goesL_ (some 34) rfl rfl Try.func45 (by kernel_rfl) rfl #[.agg #[.string t463, .string t464, .bool t465, .slice Ao51 t466.length co51]] rfl (by (try simp only [List.map_toArray,List.map_cons,List.map_nil]);first|done|rfl|(simp only [List.length_drop,List.length_take];rfl)) ?_;(with_reducible refine (impl_TreeOK.calls kj3 t463 t464 t465 _ _ t466 true _ ?side1 ?side2 A29.out).mono ?_);(case side1=>refine (Kd.N_reads' (e:=26) (base:=w.heap.size) (ok:=fun k_=>(((P0_3_ k_∨w.heap.size≤k_)∧(k_≠gb450∧(k_≠gb451∧(k_≠gb452∧k_≠gb462))))∧k_≠gb469)) (n:=t466.length) (c:=co51) ?_).2.2;exact (Kd.N_mono (Kd.N_far (p:=⟨gb469,3,none⟩) (Kd.N_far (p:=⟨gb469,2,none⟩) (Kd.N_far (p:=⟨gb469,1,none⟩) (Kd.N_far (p:=⟨gb469,0,none⟩) (Kd.N_mono HO468.out (fun k_ hk=>(⟨hk,hk.2⟩:_∧k_≠gb469))) (fun _ hk=>hk.2) (.string t463)) (fun _ hk=>hk.2) (.string t464)) (fun _ hk=>hk.2) (.bool t465)) (fun _ hk=>hk.2) (.slice Ao51 t466.length co51)) (fun _ h_=>h_.1)));(case side2=>exact (Kd.N_reads' HO468.out).2.1);rintro e w52 ⟨rfl,hb⟩;refine ⟨_,rfl, ?_⟩;replace HO_451003:=A0_ (Kd.V_below (Kd.V_mono (Kd.V_far (p:=⟨gb469,3,none⟩) (Kd.V_far (p:=⟨gb469,2,none⟩) (Kd.V_far (p:=⟨gb469,1,none⟩) (Kd.V_far (p:=⟨gb469,0,none⟩) (Kd.V_mono HO_451003.out (fun k_ hk=>(⟨hk,hk.2⟩:_∧k_≠gb469))) (fun _ hk=>hk.2) (.string t463)) (fun _ hk=>hk.2) (.string t464)) (fun _ hk=>hk.2) (.bool t465)) (fun _ hk=>hk.2) (.slice Ao51 t466.length co51)) (fun _ h_=>h_.1)) hb);replace HO460:=A0_ (Kd.V_below (Kd.V_mono (Kd.V_far (p:=⟨gb469,3,none⟩) (Kd.V_far (p:=⟨gb469,2,none⟩) (Kd.V_far (p:=⟨gb469,1,none⟩) (Kd.V_far (p:=⟨gb469,0,none⟩) (Kd.V_mono HO460.out (fun k_ hk=>(⟨hk,hk.2⟩:_∧k_≠gb469))) (fun _ hk=>hk.2) (.string t463)) (fun _ hk=>hk.2) (.string t464)) (fun _ hk=>hk.2) (.bool t465)) (fun _ hk=>hk.2) (.slice Ao51 t466.length co51)) (fun _ h_=>h_.1)) hb);replace HO468:=A0_ (Kd.N_below (Kd.N_mono (Kd.N_far (p:=⟨gb469,3,none⟩) (Kd.N_far (p:=⟨gb469,2,none⟩) (Kd.N_far (p:=⟨gb469,1,none⟩) (Kd.N_far (p:=⟨gb469,0,none⟩) (Kd.N_mono HO468.out (fun k_ hk=>(⟨hk,hk.2⟩:_∧k_≠gb469))) (fun _ hk=>hk.2) (.string t463)) (fun _ hk=>hk.2) (.string t464)) (fun _ hk=>hk.2) (.bool t465)) (fun _ hk=>hk.2) (.slice Ao51 t466.length co51)) (fun _ h_=>h_.1)) hb);replace BK450:=A0_ (blk_below (g:=gb450) (o:= .cells #[.string a0_0, .string a0_1, .bool a0_2, .slice A0_3 l0_3.length c0_3] 26 (0,0)) (by (with_reducible repeat (first|refine blk_drewN ?_ _|refine blk_drew ?_|refine blk_alloc ?_ _));refine blk_far ?_ NB450_469.out _;(with_reducible repeat (first|refine blk_drewN ?_ _|refine blk_drew ?_|refine blk_alloc ?_ _));refine blk_far ?_ NB450_469.out _;(with_reducible repeat (first|refine blk_drewN ?_ _|refine blk_drew ?_|refine blk_alloc ?_ _));refine blk_far ?_ NB450_469.out _;(with_reducible repeat (first|refine blk_drewN ?_ _|refine blk_drew ?_|refine blk_alloc ?_ _));refine blk_far ?_ NB450_469.out _;(with_reducible repeat (first|refine blk_drewN ?_ _|refine blk_drew ?_|refine blk_alloc ?_ _));exact BK450.out) hb);replace BK451:=A0_ (blk_below (g:=gb451) (o:= .cells #[.string a2_0, .string a2_1, .bool a2_2, .slice A2_3 l2_3.length c2_3] 26 (0,0)) (by (with_reducible repeat (first|refine blk_drewN ?_ _|refine blk_drew ?_|refine blk_alloc ?_ _));refine blk_far ?_ NB451_469.out _;(with_reducible repeat (first|refine blk_drewN ?_ _|refine blk_drew ?_|refine blk_alloc ?_ _));refine blk_far ?_ NB451_469.out _;(with_reducible repeat (first|refine blk_drewN ?_ _|refine blk_drew ?_|refine blk_alloc ?_ _));refine blk_far ?_ NB451_469.out _;(with_reducible repeat (first|refine blk_drewN ?_ _|refine blk_drew ?_|refine blk_alloc ?_ _));refine blk_far ?_ NB451_469.out _;(with_reducible repeat (first|refine blk_drewN ?_ _|refine blk_drew ?_|refine blk_alloc ?_ _));exact BK451.out) hb);replace BK452:=A0_ (blk_below (g:=gb452) (o:= .cells #[.string (⟨#[]⟩:ByteArray), .string (⟨#[]⟩:ByteArray), .bool false, .slice none 0 0] 26 (0,0)) (by (with_reducible repeat (first|refine blk_drewN ?_ _|refine blk_drew ?_|refine blk_alloc ?_ _));refine blk_far ?_ NB452_469.out _;(with_reducible repeat (first|refine blk_drewN ?_ _|refine blk_drew ?_|refine blk_alloc ?_ _));refine blk_far ?_ NB452_469.out _;(with_reducible repeat (first|refine blk_drewN ?_ _|refine blk_drew ?_|refine blk_alloc ?_ _));refine blk_far ?_ NB452_469.out _;(with_reducible repeat (first|refine blk_drewN ?_ _|refine blk_drew ?_|refine blk_alloc ?_ _));refine blk_far ?_ NB452_469.out _;(with_reducible repeat (first|refine blk_drewN ?_ _|refine blk_drew ?_|refine blk_alloc ?_ _));exact BK452.out) hb);replace BK462:=A0_ (blk_below (g:=gb462) (o:= .cells #[.string t455, .string t456, .bool t457, .slice Ao40 t458.length co40] 26 (0,0)) (by (with_reducible repeat (first|refine blk_drewN ?_ _|refine blk_drew ?_|refine blk_alloc ?_ _));refine blk_far ?_ NB462_469.out _;(with_reducible repeat (first|refine blk_drewN ?_ _|refine blk_drew ?_|refine blk_alloc ?_ _));refine blk_far ?_ NB462_469.out _;(with_reducible repeat (first|refine blk_drewN ?_ _|refine blk_drew ?_|refine blk_alloc ?_ _));refine blk_far ?_ NB462_469.out _;(with_reducible repeat (first|refine blk_drewN ?_ _|refine blk_drew ?_|refine blk_alloc ?_ _));refine blk_far ?_ NB462_469.out _;(with_reducible repeat (first|refine blk_drewN ?_ _|refine blk_drew ?_|refine blk_alloc ?_ _));exact BK462.out) hb);replace BK469:=A0_ (blk_below (g:=gb469) (o:= .cells #[.string t463, .string t464, .bool t465, .slice Ao51 t466.length co51] 26 (0,0)) (by (with_reducible repeat (first|refine blk_drewN ?_ _|refine blk_drew ?_|refine blk_alloc ?_ _));refine blk_put (cs:= #[.string t463, .string t464, .bool t465, .slice none 0 0]) ?_ 3 _ rfl;(with_reducible repeat (first|refine blk_drewN ?_ _|refine blk_drew ?_|refine blk_alloc ?_ _));refine blk_put (cs:= #[.string t463, .string t464, .bool false, .slice none 0 0]) ?_ 2 _ rfl;(with_reducible repeat (first|refine blk_drewN ?_ _|refine blk_drew ?_|refine blk_alloc ?_ _));refine blk_put (cs:= #[.string t463, .string (⟨#[]⟩:ByteArray), .bool false, .slice none 0 0]) ?_ 1 _ rfl;(with_reducible repeat (first|refine blk_drewN ?_ _|refine blk_drew ?_|refine blk_alloc ?_ _));refine blk_put (cs:= #[.string (⟨#[]⟩:ByteArray), .string (⟨#[]⟩:ByteArray), .bool false, .slice none 0 0]) ?_ 0 _ rfl;(with_reducible repeat (first|refine blk_drewN ?_ _|refine blk_drew ?_|refine blk_alloc ?_ _));exact BK469.out) hb);replace HB:=A0_ (below_step (by repeat (first|(with_reducible first|exact HB.out|apply below_alloc|apply pw_below_drewN|apply below_drew1|refine below_set ?_ GE450.out|refine below_set ?_ GE451.out|refine below_set ?_ GE452.out|refine below_set ?_ GE462.out|refine below_set ?_ GE469.out)|exact HB.out)) hb);(try clear hb);(try clear hb2);(try clear hk);(try clear hi);obtain ⟨hcz53_0,hcz53_1,hcz53_2,hcz53_3⟩:=bc4_ BK469.out;obtain ⟨hfz53_0,hfz53_1,hfz53_2,hfz53_3⟩:=bf4_ BK469.out;obtain ⟨hcz54_0,hcz54_1,hcz54_2,hcz54_3⟩:=bc4_ BK452.out;obtain ⟨hfz54_0,hfz54_1,hfz54_2,hfz54_3⟩:=bf4_ BK452.out))
      refine bodyPost_ret (results_ct rfl _ _ gb452 26 #[.string t463, .string t464, .bool t465, .slice Ao51 t466.length co51] (0,0) _ rfl (by (with_reducible repeat (first|refine blk_drewN ?_ _|refine blk_drew ?_|refine blk_alloc ?_ _));refine blk_put (cs:= #[.string t463, .string t464, .bool t465, .slice none 0 0]) ?_ 3 _ rfl;(with_reducible repeat (first|refine blk_drewN ?_ _|refine blk_drew ?_|refine blk_alloc ?_ _));refine blk_put (cs:= #[.string t463, .string t464, .bool false, .slice none 0 0]) ?_ 2 _ rfl;(with_reducible repeat (first|refine blk_drewN ?_ _|refine blk_drew ?_|refine blk_alloc ?_ _));refine blk_put (cs:= #[.string t463, .string (⟨#[]⟩:ByteArray), .bool false, .slice none 0 0]) ?_ 1 _ rfl;(with_reducible repeat (first|refine blk_drewN ?_ _|refine blk_drew ?_|refine blk_alloc ?_ _));refine blk_put (cs:= #[.string (⟨#[]⟩:ByteArray), .string (⟨#[]⟩:ByteArray), .bool false, .slice none 0 0]) ?_ 0 _ rfl;(with_reducible repeat (first|refine blk_drewN ?_ _|refine blk_drew ?_|refine blk_alloc ?_ _));exact BK452.out) Try.underlying26 rfl (by kernel_rfl)) rfl ?_
      exact ⟨_,by first|rfl|(simp [errW_none,errW_some] <;> rfl)|(simp [*,errW_none,errW_some] <;> rfl),by (with_reducible repeat (first|apply Kd.N_alloc|apply Kd.N_drewN|apply Kd.N_drew));exact Kd.N_mono (Kd.N_far (p:=⟨gb452,3,none⟩) (Kd.N_far (p:=⟨gb452,2,none⟩) (Kd.N_far (p:=⟨gb452,1,none⟩) (Kd.N_far (p:=⟨gb452,0,none⟩) (Kd.N_mono HO468.out (fun k_ hk=>(⟨hk,hk.1.2.2.2.1⟩:_∧k_≠gb452))) (fun _ hk=>hk.2) (.string t463)) (fun _ hk=>hk.2) (.string t464)) (fun _ hk=>hk.2) (.bool t465)) (fun _ hk=>hk.2) (.slice Ao51 t466.length co51)) (fun _ hk=>hk.1.1.1),by repeat (first|(with_reducible first|exact HB.out|apply below_alloc|apply pw_below_drewN|apply below_drew1|refine below_set ?_ GE450.out|refine below_set ?_ GE451.out|refine below_set ?_ GE452.out|refine below_set ?_ GE462.out|refine below_set ?_ GE469.out)|exact HB.out)⟩
     ·replace c30:=Bool.eq_false_iff.mpr c30
      subst c30
      have H1:(some ((⟨#[]⟩:ByteArray),(⟨#[]⟩:ByteArray),false,([]:List (S26)),3))=some (r1,r2,r3,r4,r5):=by rw [if_neg (show ¬ (false=true) by decide)] at H;exact H
      clear H
      have H:=H1
      clear H1
      simp only [Option.some.injEq,Prod.mk.injEq] at H
      obtain ⟨rfl,rfl,rfl,rfl,rfl⟩:=H
      have hnb55:=NB450_451.out
      have hnc55:=NB451_450.out
      have hnb56:=NB450_452.out
      have hnc56:=NB452_450.out
      obtain ⟨hcz57_0,hcz57_1,hcz57_2,hcz57_3⟩:=bc4_ BK450.out
      obtain ⟨hfz57_0,hfz57_1,hfz57_2,hfz57_3⟩:=bf4_ BK450.out
      go_wp2_with (first|((with_reducible refine gate_callee (f:=46) rfl ?_);refine goesL_ (some 23) rfl rfl Try.func46 (by kernel_rfl) rfl #[.agg #[.string a0_0, .string a0_1, .bool a0_2, .slice A0_3 l0_3.length c0_3], .slice A1 l1.length c1] rfl (by (try simp only [List.map_toArray,List.map_cons,List.map_nil]);first|done|rfl|(simp only [List.length_drop,List.length_take];rfl)) ?_;(with_reducible refine (impl_at.calls kj3 a0_0 a0_1 a0_2 (fun k_=>((P0_3_ k_∨w.heap.size≤k_)∧(k_≠gb450∧(k_≠gb451∧k_≠gb452)))) _ _ l0_3 _ _ l1 t455 t456 t457 t458 true _ ?side1 ?side2 ?side3 A26.out).mono ?_);(case side1=>exact HO_451003.out);(case side2=>repeat (first|exact (Kd.C_below HR1.out HB.out)|(with_reducible refine Kd.C_alloc ?_ _)|(with_reducible refine Kd.C_drewN ?_ _)|(with_reducible refine Kd.C_drew ?_)));(case side3=>exact HC1.out);rintro e w58 ⟨v459,rfl,ho0,hb⟩;refine ⟨_,rfl, ?_⟩;replace HO_451003:=A0_ (Kd.V_below HO_451003.out hb);have HO460:=A0_ (Kd.V_lower (Kd.V_mono (ok':=fun k_=>(P0_3_ k_∨w.heap.size≤k_)∧k_≠gb450∧k_≠gb451∧k_≠gb452) ho0 (fun k_ hk_=>⟨Or.elim hk_ (fun hs_=>(by first|exact hs_.1|(have hk0_:=hs_;revert hk0_;(try simp only [and_imp]);intros;(repeat' apply And.intro) <;> assumption))) (fun hn_=>(.inr (Nat.le_trans (below_size HB.out) hn_))),Or.elim hk_ (fun hs_=>(by first|exact hs_.2.1|(have hk0_:=hs_;revert hk0_;(try simp only [and_imp]);intros;(repeat' apply And.intro) <;> assumption))) (fun hn_=>(Kd.freshB BK450.out k_ hn_)),Or.elim hk_ (fun hs_=>(by first|exact hs_.2.2.1|(have hk0_:=hs_;revert hk0_;(try simp only [and_imp]);intros;(repeat' apply And.intro) <;> assumption))) (fun hn_=>(Kd.freshB BK451.out k_ hn_)),Or.elim hk_ (fun hs_=>(by first|exact hs_.2.2.2|(have hk0_:=hs_;revert hk0_;(try simp only [and_imp]);intros;(repeat' apply And.intro) <;> assumption))) (fun hn_=>(Kd.freshB BK452.out k_ hn_))⟩)) (below_size HB.out));replace BK450:=A0_ (blk_below BK450.out hb);replace BK451:=A0_ (blk_below BK451.out hb);replace BK452:=A0_ (blk_below BK452.out hb);replace HB:=A0_ (below_step HB.out hb);(try clear hb);(try clear hb2);(try clear hk);(try clear hi);(try clear ho0))|((with_reducible refine gate_dst (N:=8) rfl ?_);refine box_event ?hg (N:=8) ?hd (cs:= #[.string (⟨#[]⟩:ByteArray), .string (⟨#[]⟩:ByteArray), .bool false, .slice none 0 0]) (t:=26) ?hr ?_;(case hd=>rfl);(case hg=>rfl);(case hr=>first|(go_simp;done)|(go_simp;rfl));intro gb462 hg w59 hbox hb;replace HO_451003:=A0_ (Kd.V_below (Kd.V_elderB HO_451003.out gb462 (Nat.le_of_eq hg.symm)) hb);replace HO460:=A0_ (Kd.V_below (Kd.V_elderB HO460.out gb462 (Nat.le_of_eq hg.symm)) hb);have BK462:=A0_ (hbox);have GW462:=A0_ ((by rw [hg];exact (below_size HB.out):w.heap.size≤gb462));have GE462:=A0_ ((by rw [hg];exact (below_size HB.out):w.heap.size≤gb462));replace HB:=A0_ (below_step HB.out hb);have NB450_462:=A0_ ((by rw [hg];exact Nat.ne_of_lt (blk_lt BK450.out):gb450≠gb462));have NB462_450:=A0_ ((by rw [hg];exact Nat.ne_of_gt (blk_lt BK450.out):gb462≠gb450));replace BK450:=A0_ (blk_below BK450.out hb);have NB451_462:=A0_ ((by rw [hg];exact Nat.ne_of_lt (blk_lt BK451.out):gb451≠gb462));have NB462_451:=A0_ ((by rw [hg];exact Nat.ne_of_gt (blk_lt BK451.out):gb462≠gb451));replace BK451:=A0_ (blk_below BK451.out hb);have NB452_462:=A0_ ((by rw [hg];exact Nat.ne_of_lt (blk_lt BK452.out):gb452≠gb462));have NB462_452:=A0_ ((by rw [hg];exact Nat.ne_of_gt (blk_lt BK452.out):gb462≠gb452));replace BK452:=A0_ (blk_below BK452.out hb);clear hb hbox hg;have hnb60:=NB462_450.out;have hnc60:=NB450_462.out;have hnb61:=NB462_451.out;have hnc61:=NB451_462.out;have hnb62:=NB462_452.out;have hnc62:=NB452_462.out;obtain ⟨hcz63_0,hcz63_1,hcz63_2,hcz63_3⟩:=bc4_ BK462.out;obtain ⟨hfz63_0,hfz63_1,hfz63_2,hfz63_3⟩:=bf4_ BK462.out;obtain ⟨Ao64,co64,eo64⟩:=Kd.V_slice HO460.out;subst eo64;obtain ⟨hcz65_0,hcz65_1,hcz65_2,hcz65_3⟩:=bc4_ BK450.out;obtain ⟨hfz65_0,hfz65_1,hfz65_2,hfz65_3⟩:=bf4_ BK450.out;have hnb66:=NB451_452.out;have hnc66:=NB452_451.out;obtain ⟨hcz67_0,hcz67_1,hcz67_2,hcz67_3⟩:=bc4_ BK451.out;obtain ⟨hfz67_0,hfz67_1,hfz67_2,hfz67_3⟩:=bf4_ BK451.out)|((with_reducible refine gate_callee (f:=47) rfl ?_);refine goesL_ (some 32) rfl rfl Try.func47 (by kernel_rfl) rfl #[.agg #[.string a0_0, .string a0_1, .bool a0_2, .slice A0_3 l0_3.length c0_3], .slice A1 l1.length c1, .agg #[.string a2_0, .string a2_1, .bool a2_2, .slice A2_3 l2_3.length c2_3]] rfl (by (try simp only [List.map_toArray,List.map_cons,List.map_nil]);first|done|rfl|(simp only [List.length_drop,List.length_take];rfl)) ?_;(with_reducible refine (impl_put.calls kj3 a0_0 a0_1 a0_2 _ _ l0_3 _ _ l1 a2_0 a2_1 a2_2 _ _ l2_3 t463 t464 t465 t466 _ ?side1 ?side2 ?side3 ?side4 ?side5 ?side6 A28.out).mono ?_);(case side1=>refine (Kd.V_reads' (e:=26) (base:=w.heap.size) (ok:=fun k_=>(((P0_3_ k_∨w.heap.size≤k_)∧(k_≠gb450∧(k_≠gb451∧k_≠gb452)))∧k_≠gb462)) (n:=l0_3.length) (c:=c0_3) ?_).2.2;exact (Kd.V_mono (Kd.V_far (p:=⟨gb462,3,none⟩) (Kd.V_far (p:=⟨gb462,2,none⟩) (Kd.V_far (p:=⟨gb462,1,none⟩) (Kd.V_far (p:=⟨gb462,0,none⟩) (Kd.V_mono HO_451003.out (fun k_ hk=>(⟨hk,hk.2⟩:_∧k_≠gb462))) (fun _ hk=>hk.2) (.string t455)) (fun _ hk=>hk.2) (.string t456)) (fun _ hk=>hk.2) (.bool t457)) (fun _ hk=>hk.2) (.slice Ao64 t458.length co64)) (fun _ h_=>h_.1)));(case side2=>exact (Kd.V_reads' HO_451003.out).2.1);(case side3=>exact Kd.C_below HR1.out (by repeat (first|(with_reducible first|exact HB.out|apply below_alloc|apply pw_below_drewN|apply below_drew1|refine below_set ?_ GE450.out|refine below_set ?_ GE451.out|refine below_set ?_ GE452.out|refine below_set ?_ GE462.out)|exact HB.out)));(case side4=>exact HC1.out);(case side5=>exact Kd.C_below HR2_3.out (by repeat (first|(with_reducible first|exact HB.out|apply below_alloc|apply pw_below_drewN|apply below_drew1|refine below_set ?_ GE450.out|refine below_set ?_ GE451.out|refine below_set ?_ GE452.out|refine below_set ?_ GE462.out)|exact HB.out)));(case side6=>exact HC2_3.out);rintro e w68 ⟨v467,rfl,ho0,hb⟩;refine ⟨_,rfl, ?_⟩;replace HO_451003:=A0_ (Kd.V_elder' (Kd.V_mono (Kd.V_far (p:=⟨gb462,3,none⟩) (Kd.V_far (p:=⟨gb462,2,none⟩) (Kd.V_far (p:=⟨gb462,1,none⟩) (Kd.V_far (p:=⟨gb462,0,none⟩) (Kd.V_mono HO_451003.out (fun k_ hk=>(⟨hk,hk.2⟩:_∧k_≠gb462))) (fun _ hk=>hk.2) (.string t455)) (fun _ hk=>hk.2) (.string t456)) (fun _ hk=>hk.2) (.bool t457)) (fun _ hk=>hk.2) (.slice Ao64 t458.length co64)) (fun _ h_=>h_.1)) (Kd.N_base ho0) hb);replace HO460:=A0_ (Kd.V_elder' (Kd.V_mono (Kd.V_far (p:=⟨gb462,3,none⟩) (Kd.V_far (p:=⟨gb462,2,none⟩) (Kd.V_far (p:=⟨gb462,1,none⟩) (Kd.V_far (p:=⟨gb462,0,none⟩) (Kd.V_mono HO460.out (fun k_ hk=>(⟨hk,hk.2⟩:_∧k_≠gb462))) (fun _ hk=>hk.2) (.string t455)) (fun _ hk=>hk.2) (.string t456)) (fun _ hk=>hk.2) (.bool t457)) (fun _ hk=>hk.2) (.slice Ao64 t458.length co64)) (fun _ h_=>h_.1)) (Kd.N_base ho0) hb);have HO468:=A0_ (Kd.N_lower (Kd.N_mono (ok':=fun k_=>(P0_3_ k_∨w.heap.size≤k_)∧k_≠gb450∧k_≠gb451∧k_≠gb452∧k_≠gb462) ho0 (fun k_ hk_=>⟨(.inr (Nat.le_trans (below_size (by repeat (first|(with_reducible first|exact HB.out|apply below_alloc|apply pw_below_drewN|apply below_drew1|refine below_set ?_ GE450.out|refine below_set ?_ GE451.out|refine below_set ?_ GE452.out|refine below_set ?_ GE462.out)|exact HB.out))) hk_)),(Kd.freshB (g:=gb450) (o:= .cells #[.string a0_0, .string a0_1, .bool a0_2, .slice A0_3 l0_3.length c0_3] 26 (0,0)) (by (with_reducible repeat (first|refine blk_drewN ?_ _|refine blk_drew ?_|refine blk_alloc ?_ _));refine blk_far ?_ NB450_462.out _;(with_reducible repeat (first|refine blk_drewN ?_ _|refine blk_drew ?_|refine blk_alloc ?_ _));refine blk_far ?_ NB450_462.out _;(with_reducible repeat (first|refine blk_drewN ?_ _|refine blk_drew ?_|refine blk_alloc ?_ _));refine blk_far ?_ NB450_462.out _;(with_reducible repeat (first|refine blk_drewN ?_ _|refine blk_drew ?_|refine blk_alloc ?_ _));refine blk_far ?_ NB450_462.out _;(with_reducible repeat (first|refine blk_drewN ?_ _|refine blk_drew ?_|refine blk_alloc ?_ _));exact BK450.out) k_ hk_),(Kd.freshB (g:=gb451) (o:= .cells #[.string a2_0, .string a2_1, .bool a2_2, .slice A2_3 l2_3.length c2_3] 26 (0,0)) (by (with_reducible repeat (first|refine blk_drewN ?_ _|refine blk_drew ?_|refine blk_alloc ?_ _));refine blk_far ?_ NB451_462.out _;(with_reducible repeat (first|refine blk_drewN ?_ _|refine blk_drew ?_|refine blk_alloc ?_ _));refine blk_far ?_ NB451_462.out _;(with_reducible repeat (first|refine blk_drewN ?_ _|refine blk_drew ?_|refine blk_alloc ?_ _));refine blk_far ?_ NB451_462.out _;(with_reducible repeat (first|refine blk_drewN ?_ _|refine blk_drew ?_|refine blk_alloc ?_ _));refine blk_far ?_ NB451_462.out _;(with_reducible repeat (first|refine blk_drewN ?_ _|refine blk_drew ?_|refine blk_alloc ?_ _));exact BK451.out) k_ hk_),(Kd.freshB (g:=gb452) (o:= .cells #[.string (⟨#[]⟩:ByteArray), .string (⟨#[]⟩:ByteArray), .bool false, .slice none 0 0] 26 (0,0)) (by (with_reducible repeat (first|refine blk_drewN ?_ _|refine blk_drew ?_|refine blk_alloc ?_ _));refine blk_far ?_ NB452_462.out _;(with_reducible repeat (first|refine blk_drewN ?_ _|refine blk_drew ?_|refine blk_alloc ?_ _));refine blk_far ?_ NB452_462.out _;(with_reducible repeat (first|refine blk_drewN ?_ _|refine blk_drew ?_|refine blk_alloc ?_ _));refine blk_far ?_ NB452_462.out _;(with_reducible repeat (first|refine blk_drewN ?_ _|refine blk_drew ?_|refine blk_alloc ?_ _));refine blk_far ?_ NB452_462.out _;(with_reducible repeat (first|refine blk_drewN ?_ _|refine blk_drew ?_|refine blk_alloc ?_ _));exact BK452.out) k_ hk_),(Kd.freshB (g:=gb462) (o:= .cells #[.string t455, .string t456, .bool t457, .slice Ao64 t458.length co64] 26 (0,0)) (by (with_reducible repeat (first|refine blk_drewN ?_ _|refine blk_drew ?_|refine blk_alloc ?_ _));refine blk_put (cs:= #[.string t455, .string t456, .bool t457, .slice none 0 0]) ?_ 3 _ rfl;(with_reducible repeat (first|refine blk_drewN ?_ _|refine blk_drew ?_|refine blk_alloc ?_ _));refine blk_put (cs:= #[.string t455, .string t456, .bool false, .slice none 0 0]) ?_ 2 _ rfl;(with_reducible repeat (first|refine blk_drewN ?_ _|refine blk_drew ?_|refine blk_alloc ?_ _));refine blk_put (cs:= #[.string t455, .string (⟨#[]⟩:ByteArray), .bool false, .slice none 0 0]) ?_ 1 _ rfl;(with_reducible repeat (first|refine blk_drewN ?_ _|refine blk_drew ?_|refine blk_alloc ?_ _));refine blk_put (cs:= #[.string (⟨#[]⟩:ByteArray), .string (⟨#[]⟩:ByteArray), .bool false, .slice none 0 0]) ?_ 0 _ rfl;(with_reducible repeat (first|refine blk_drewN ?_ _|refine blk_drew ?_|refine blk_alloc ?_ _));exact BK462.out) k_ hk_)⟩)) (below_size (by repeat (first|(with_reducible first|exact HB.out|apply below_alloc|apply pw_below_drewN|apply below_drew1|refine below_set ?_ GE450.out|refine below_set ?_ GE451.out|refine below_set ?_ GE452.out|refine below_set ?_ GE462.out)|exact HB.out))));replace BK450:=A0_ (blk_below (g:=gb450) (o:= .cells #[.string a0_0, .string a0_1, .bool a0_2, .slice A0_3 l0_3.length c0_3] 26 (0,0)) (by (with_reducible repeat (first|refine blk_drewN ?_ _|refine blk_drew ?_|refine blk_alloc ?_ _));refine blk_far ?_ NB450_462.out _;(with_reducible repeat (first|refine blk_drewN ?_ _|refine blk_drew ?_|refine blk_alloc ?_ _));refine blk_far ?_ NB450_462.out _;(with_reducible repeat (first|refine blk_drewN ?_ _|refine blk_drew ?_|refine blk_alloc ?_ _));refine blk_far ?_ NB450_462.out _;(with_reducible repeat (first|refine blk_drewN ?_ _|refine blk_drew ?_|refine blk_alloc ?_ _));refine blk_far ?_ NB450_462.out _;(with_reducible repeat (first|refine blk_drewN ?_ _|refine blk_drew ?_|refine blk_alloc ?_ _));exact BK450.out) hb);replace BK451:=A0_ (blk_below (g:=gb451) (o:= .cells #[.string a2_0, .string a2_1, .bool a2_2, .slice A2_3 l2_3.length c2_3] 26 (0,0)) (by (with_reducible repeat (first|refine blk_drewN ?_ _|refine blk_drew ?_|refine blk_alloc ?_ _));refine blk_far ?_ NB451_462.out _;(with_reducible repeat (first|refine blk_drewN ?_ _|refine blk_drew ?_|refine blk_alloc ?_ _));refine blk_far ?_ NB451_462.out _;(with_reducible repeat (first|refine blk_drewN ?_ _|refine blk_drew ?_|refine blk_alloc ?_ _));refine blk_far ?_ NB451_462.out _;(with_reducible repeat (first|refine blk_drewN ?_ _|refine blk_drew ?_|refine blk_alloc ?_ _));refine blk_far ?_ NB451_462.out _;(with_reducible repeat (first|refine blk_drewN ?_ _|refine blk_drew ?_|refine blk_alloc ?_ _));exact BK451.out) hb);replace BK452:=A0_ (blk_below (g:=gb452) (o:= .cells #[.string (⟨#[]⟩:ByteArray), .string (⟨#[]⟩:ByteArray), .bool false, .slice none 0 0] 26 (0,0)) (by (with_reducible repeat (first|refine blk_drewN ?_ _|refine blk_drew ?_|refine blk_alloc ?_ _));refine blk_far ?_ NB452_462.out _;(with_reducible repeat (first|refine blk_drewN ?_ _|refine blk_drew ?_|refine blk_alloc ?_ _));refine blk_far ?_ NB452_462.out _;(with_reducible repeat (first|refine blk_drewN ?_ _|refine blk_drew ?_|refine blk_alloc ?_ _));refine blk_far ?_ NB452_462.out _;(with_reducible repeat (first|refine blk_drewN ?_ _|refine blk_drew ?_|refine blk_alloc ?_ _));refine blk_far ?_ NB452_462.out _;(with_reducible repeat (first|refine blk_drewN ?_ _|refine blk_drew ?_|refine blk_alloc ?_ _));exact BK452.out) hb);replace BK462:=A0_ (blk_below (g:=gb462) (o:= .cells #[.string t455, .string t456, .bool t457, .slice Ao64 t458.length co64] 26 (0,0)) (by (with_reducible repeat (first|refine blk_drewN ?_ _|refine blk_drew ?_|refine blk_alloc ?_ _));refine blk_put (cs:= #[.string t455, .string t456, .bool t457, .slice none 0 0]) ?_ 3 _ rfl;(with_reducible repeat (first|refine blk_drewN ?_ _|refine blk_drew ?_|refine blk_alloc ?_ _));refine blk_put (cs:= #[.string t455, .string t456, .bool false, .slice none 0 0]) ?_ 2 _ rfl;(with_reducible repeat (first|refine blk_drewN ?_ _|refine blk_drew ?_|refine blk_alloc ?_ _));refine blk_put (cs:= #[.string t455, .string (⟨#[]⟩:ByteArray), .bool false, .slice none 0 0]) ?_ 1 _ rfl;(with_reducible repeat (first|refine blk_drewN ?_ _|refine blk_drew ?_|refine blk_alloc ?_ _));refine blk_put (cs:= #[.string (⟨#[]⟩:ByteArray), .string (⟨#[]⟩:ByteArray), .bool false, .slice none 0 0]) ?_ 0 _ rfl;(with_reducible repeat (first|refine blk_drewN ?_ _|refine blk_drew ?_|refine blk_alloc ?_ _));exact BK462.out) hb);replace HB:=A0_ (below_step (by repeat (first|(with_reducible first|exact HB.out|apply below_alloc|apply pw_below_drewN|apply below_drew1|refine below_set ?_ GE450.out|refine below_set ?_ GE451.out|refine below_set ?_ GE452.out|refine below_set ?_ GE462.out)|exact HB.out)) hb);(try clear hb);(try clear hb2);(try clear hk);(try clear hi);(try clear ho0))|((with_reducible refine gate_dst (N:=10) rfl ?_);refine box_event ?hg (N:=10) ?hd (cs:= #[.string (⟨#[]⟩:ByteArray), .string (⟨#[]⟩:ByteArray), .bool false, .slice none 0 0]) (t:=26) ?hr ?_;(case hd=>rfl);(case hg=>rfl);(case hr=>first|(go_simp;done)|(go_simp;rfl));intro gb469 hg w69 hbox hb;replace HO_451003:=A0_ (Kd.V_below (Kd.V_elderB HO_451003.out gb469 (Nat.le_of_eq hg.symm)) hb);replace HO460:=A0_ (Kd.V_below (Kd.V_elderB HO460.out gb469 (Nat.le_of_eq hg.symm)) hb);replace HO468:=A0_ (Kd.N_below (Kd.N_elderB HO468.out gb469 (Nat.le_of_eq hg.symm)) hb);have BK469:=A0_ (hbox);have GW469:=A0_ ((by rw [hg];exact (below_size HB.out):w.heap.size≤gb469));have GE469:=A0_ ((by rw [hg];exact (below_size HB.out):w.heap.size≤gb469));replace HB:=A0_ (below_step HB.out hb);have NB450_469:=A0_ ((by rw [hg];exact Nat.ne_of_lt (blk_lt BK450.out):gb450≠gb469));have NB469_450:=A0_ ((by rw [hg];exact Nat.ne_of_gt (blk_lt BK450.out):gb469≠gb450));replace BK450:=A0_ (blk_below BK450.out hb);have NB451_469:=A0_ ((by rw [hg];exact Nat.ne_of_lt (blk_lt BK451.out):gb451≠gb469));have NB469_451:=A0_ ((by rw [hg];exact Nat.ne_of_gt (blk_lt BK451.out):gb469≠gb451));replace BK451:=A0_ (blk_below BK451.out hb);have NB452_469:=A0_ ((by rw [hg];exact Nat.ne_of_lt (blk_lt BK452.out):gb452≠gb469));have NB469_452:=A0_ ((by rw [hg];exact Nat.ne_of_gt (blk_lt BK452.out):gb469≠gb452));replace BK452:=A0_ (blk_below BK452.out hb);have NB462_469:=A0_ ((by rw [hg];exact Nat.ne_of_lt (blk_lt BK462.out):gb462≠gb469));have NB469_462:=A0_ ((by rw [hg];exact Nat.ne_of_gt (blk_lt BK462.out):gb469≠gb462));replace BK462:=A0_ (blk_below BK462.out hb);clear hb hbox hg;have hnb70:=NB469_450.out;have hnc70:=NB450_469.out;have hnb71:=NB469_451.out;have hnc71:=NB451_469.out;have hnb72:=NB469_452.out;have hnc72:=NB452_469.out;have hnb73:=NB469_462.out;have hnc73:=NB462_469.out;obtain ⟨hcz74_0,hcz74_1,hcz74_2,hcz74_3⟩:=bc4_ BK469.out;obtain ⟨hfz74_0,hfz74_1,hfz74_2,hfz74_3⟩:=bf4_ BK469.out;obtain ⟨Ao75,co75,eo75⟩:=Kd.N_slice HO468.out;subst eo75)|((with_reducible refine gate_callee (f:=45) rfl ?_);refine goesL_ (some 34) rfl rfl Try.func45 (by kernel_rfl) rfl #[.agg #[.string t463, .string t464, .bool t465, .slice Ao75 t466.length co75]] rfl (by (try simp only [List.map_toArray,List.map_cons,List.map_nil]);first|done|rfl|(simp only [List.length_drop,List.length_take];rfl)) ?_;(with_reducible refine (impl_TreeOK.calls kj3 t463 t464 t465 _ _ t466 false _ ?side1 ?side2 A29.out).mono ?_);(case side1=>refine (Kd.N_reads' (e:=26) (base:=w.heap.size) (ok:=fun k_=>(((P0_3_ k_∨w.heap.size≤k_)∧(k_≠gb450∧(k_≠gb451∧(k_≠gb452∧k_≠gb462))))∧k_≠gb469)) (n:=t466.length) (c:=co75) ?_).2.2;exact (Kd.N_mono (Kd.N_far (p:=⟨gb469,3,none⟩) (Kd.N_far (p:=⟨gb469,2,none⟩) (Kd.N_far (p:=⟨gb469,1,none⟩) (Kd.N_far (p:=⟨gb469,0,none⟩) (Kd.N_mono HO468.out (fun k_ hk=>(⟨hk,hk.2⟩:_∧k_≠gb469))) (fun _ hk=>hk.2) (.string t463)) (fun _ hk=>hk.2) (.string t464)) (fun _ hk=>hk.2) (.bool t465)) (fun _ hk=>hk.2) (.slice Ao75 t466.length co75)) (fun _ h_=>h_.1)));(case side2=>exact (Kd.N_reads' HO468.out).2.1);rintro e w76 ⟨rfl,hb⟩;refine ⟨_,rfl, ?_⟩;replace HO_451003:=A0_ (Kd.V_below (Kd.V_mono (Kd.V_far (p:=⟨gb469,3,none⟩) (Kd.V_far (p:=⟨gb469,2,none⟩) (Kd.V_far (p:=⟨gb469,1,none⟩) (Kd.V_far (p:=⟨gb469,0,none⟩) (Kd.V_mono HO_451003.out (fun k_ hk=>(⟨hk,hk.2⟩:_∧k_≠gb469))) (fun _ hk=>hk.2) (.string t463)) (fun _ hk=>hk.2) (.string t464)) (fun _ hk=>hk.2) (.bool t465)) (fun _ hk=>hk.2) (.slice Ao75 t466.length co75)) (fun _ h_=>h_.1)) hb);replace HO460:=A0_ (Kd.V_below (Kd.V_mono (Kd.V_far (p:=⟨gb469,3,none⟩) (Kd.V_far (p:=⟨gb469,2,none⟩) (Kd.V_far (p:=⟨gb469,1,none⟩) (Kd.V_far (p:=⟨gb469,0,none⟩) (Kd.V_mono HO460.out (fun k_ hk=>(⟨hk,hk.2⟩:_∧k_≠gb469))) (fun _ hk=>hk.2) (.string t463)) (fun _ hk=>hk.2) (.string t464)) (fun _ hk=>hk.2) (.bool t465)) (fun _ hk=>hk.2) (.slice Ao75 t466.length co75)) (fun _ h_=>h_.1)) hb);replace HO468:=A0_ (Kd.N_below (Kd.N_mono (Kd.N_far (p:=⟨gb469,3,none⟩) (Kd.N_far (p:=⟨gb469,2,none⟩) (Kd.N_far (p:=⟨gb469,1,none⟩) (Kd.N_far (p:=⟨gb469,0,none⟩) (Kd.N_mono HO468.out (fun k_ hk=>(⟨hk,hk.2⟩:_∧k_≠gb469))) (fun _ hk=>hk.2) (.string t463)) (fun _ hk=>hk.2) (.string t464)) (fun _ hk=>hk.2) (.bool t465)) (fun _ hk=>hk.2) (.slice Ao75 t466.length co75)) (fun _ h_=>h_.1)) hb);replace BK450:=A0_ (blk_below (g:=gb450) (o:= .cells #[.string a0_0, .string a0_1, .bool a0_2, .slice A0_3 l0_3.length c0_3] 26 (0,0)) (by (with_reducible repeat (first|refine blk_drewN ?_ _|refine blk_drew ?_|refine blk_alloc ?_ _));refine blk_far ?_ NB450_469.out _;(with_reducible repeat (first|refine blk_drewN ?_ _|refine blk_drew ?_|refine blk_alloc ?_ _));refine blk_far ?_ NB450_469.out _;(with_reducible repeat (first|refine blk_drewN ?_ _|refine blk_drew ?_|refine blk_alloc ?_ _));refine blk_far ?_ NB450_469.out _;(with_reducible repeat (first|refine blk_drewN ?_ _|refine blk_drew ?_|refine blk_alloc ?_ _));refine blk_far ?_ NB450_469.out _;(with_reducible repeat (first|refine blk_drewN ?_ _|refine blk_drew ?_|refine blk_alloc ?_ _));exact BK450.out) hb);replace BK451:=A0_ (blk_below (g:=gb451) (o:= .cells #[.string a2_0, .string a2_1, .bool a2_2, .slice A2_3 l2_3.length c2_3] 26 (0,0)) (by (with_reducible repeat (first|refine blk_drewN ?_ _|refine blk_drew ?_|refine blk_alloc ?_ _));refine blk_far ?_ NB451_469.out _;(with_reducible repeat (first|refine blk_drewN ?_ _|refine blk_drew ?_|refine blk_alloc ?_ _));refine blk_far ?_ NB451_469.out _;(with_reducible repeat (first|refine blk_drewN ?_ _|refine blk_drew ?_|refine blk_alloc ?_ _));refine blk_far ?_ NB451_469.out _;(with_reducible repeat (first|refine blk_drewN ?_ _|refine blk_drew ?_|refine blk_alloc ?_ _));refine blk_far ?_ NB451_469.out _;(with_reducible repeat (first|refine blk_drewN ?_ _|refine blk_drew ?_|refine blk_alloc ?_ _));exact BK451.out) hb);replace BK452:=A0_ (blk_below (g:=gb452) (o:= .cells #[.string (⟨#[]⟩:ByteArray), .string (⟨#[]⟩:ByteArray), .bool false, .slice none 0 0] 26 (0,0)) (by (with_reducible repeat (first|refine blk_drewN ?_ _|refine blk_drew ?_|refine blk_alloc ?_ _));refine blk_far ?_ NB452_469.out _;(with_reducible repeat (first|refine blk_drewN ?_ _|refine blk_drew ?_|refine blk_alloc ?_ _));refine blk_far ?_ NB452_469.out _;(with_reducible repeat (first|refine blk_drewN ?_ _|refine blk_drew ?_|refine blk_alloc ?_ _));refine blk_far ?_ NB452_469.out _;(with_reducible repeat (first|refine blk_drewN ?_ _|refine blk_drew ?_|refine blk_alloc ?_ _));refine blk_far ?_ NB452_469.out _;(with_reducible repeat (first|refine blk_drewN ?_ _|refine blk_drew ?_|refine blk_alloc ?_ _));exact BK452.out) hb);replace BK462:=A0_ (blk_below (g:=gb462) (o:= .cells #[.string t455, .string t456, .bool t457, .slice Ao64 t458.length co64] 26 (0,0)) (by (with_reducible repeat (first|refine blk_drewN ?_ _|refine blk_drew ?_|refine blk_alloc ?_ _));refine blk_far ?_ NB462_469.out _;(with_reducible repeat (first|refine blk_drewN ?_ _|refine blk_drew ?_|refine blk_alloc ?_ _));refine blk_far ?_ NB462_469.out _;(with_reducible repeat (first|refine blk_drewN ?_ _|refine blk_drew ?_|refine blk_alloc ?_ _));refine blk_far ?_ NB462_469.out _;(with_reducible repeat (first|refine blk_drewN ?_ _|refine blk_drew ?_|refine blk_alloc ?_ _));refine blk_far ?_ NB462_469.out _;(with_reducible repeat (first|refine blk_drewN ?_ _|refine blk_drew ?_|refine blk_alloc ?_ _));exact BK462.out) hb);replace BK469:=A0_ (blk_below (g:=gb469) (o:= .cells #[.string t463, .string t464, .bool t465, .slice Ao75 t466.length co75] 26 (0,0)) (by (with_reducible repeat (first|refine blk_drewN ?_ _|refine blk_drew ?_|refine blk_alloc ?_ _));refine blk_put (cs:= #[.string t463, .string t464, .bool t465, .slice none 0 0]) ?_ 3 _ rfl;(with_reducible repeat (first|refine blk_drewN ?_ _|refine blk_drew ?_|refine blk_alloc ?_ _));refine blk_put (cs:= #[.string t463, .string t464, .bool false, .slice none 0 0]) ?_ 2 _ rfl;(with_reducible repeat (first|refine blk_drewN ?_ _|refine blk_drew ?_|refine blk_alloc ?_ _));refine blk_put (cs:= #[.string t463, .string (⟨#[]⟩:ByteArray), .bool false, .slice none 0 0]) ?_ 1 _ rfl;(with_reducible repeat (first|refine blk_drewN ?_ _|refine blk_drew ?_|refine blk_alloc ?_ _));refine blk_put (cs:= #[.string (⟨#[]⟩:ByteArray), .string (⟨#[]⟩:ByteArray), .bool false, .slice none 0 0]) ?_ 0 _ rfl;(with_reducible repeat (first|refine blk_drewN ?_ _|refine blk_drew ?_|refine blk_alloc ?_ _));exact BK469.out) hb);replace HB:=A0_ (below_step (by repeat (first|(with_reducible first|exact HB.out|apply below_alloc|apply pw_below_drewN|apply below_drew1|refine below_set ?_ GE450.out|refine below_set ?_ GE451.out|refine below_set ?_ GE452.out|refine below_set ?_ GE462.out|refine below_set ?_ GE469.out)|exact HB.out)) hb);(try clear hb);(try clear hb2);(try clear hk);(try clear hi);obtain ⟨hcz77_0,hcz77_1,hcz77_2,hcz77_3⟩:=bc4_ BK452.out;obtain ⟨hfz77_0,hfz77_1,hfz77_2,hfz77_3⟩:=bf4_ BK452.out))
      refine bodyPost_ret (results_ct rfl _ _ gb452 26 #[.string (⟨#[]⟩:ByteArray), .string (⟨#[]⟩:ByteArray), .bool false, .slice none 0 0] (0,0) _ rfl (by (with_reducible repeat (first|refine blk_drewN ?_ _|refine blk_drew ?_|refine blk_alloc ?_ _));refine blk_put (cs:= #[.string (⟨#[]⟩:ByteArray), .string (⟨#[]⟩:ByteArray), .bool false, .slice none 0 0]) ?_ 3 _ rfl;(with_reducible repeat (first|refine blk_drewN ?_ _|refine blk_drew ?_|refine blk_alloc ?_ _));refine blk_put (cs:= #[.string (⟨#[]⟩:ByteArray), .string (⟨#[]⟩:ByteArray), .bool false, .slice none 0 0]) ?_ 2 _ rfl;(with_reducible repeat (first|refine blk_drewN ?_ _|refine blk_drew ?_|refine blk_alloc ?_ _));refine blk_put (cs:= #[.string (⟨#[]⟩:ByteArray), .string (⟨#[]⟩:ByteArray), .bool false, .slice none 0 0]) ?_ 1 _ rfl;(with_reducible repeat (first|refine blk_drewN ?_ _|refine blk_drew ?_|refine blk_alloc ?_ _));refine blk_put (cs:= #[.string (⟨#[]⟩:ByteArray), .string (⟨#[]⟩:ByteArray), .bool false, .slice none 0 0]) ?_ 0 _ rfl;(with_reducible repeat (first|refine blk_drewN ?_ _|refine blk_drew ?_|refine blk_alloc ?_ _));exact BK452.out) Try.underlying26 rfl (by kernel_rfl)) rfl ?_
      exact ⟨_,by first|rfl|(simp [errW_none,errW_some] <;> rfl)|(simp [*,errW_none,errW_some] <;> rfl),by first|exact Kd.R_nil _ _ _ _ _|exact Kd.N_nil _ _ _ _ _|exact Kd.V_nil _ _ _ _ _|exact Kd.Q_nil _ _ _ _ _|exact Kd.S_nil _ _ _ _ _,by repeat (first|(with_reducible first|exact HB.out|apply below_alloc|apply pw_below_drewN|apply below_drew1|refine below_set ?_ GE450.out|refine below_set ?_ GE451.out|refine below_set ?_ GE452.out|refine below_set ?_ GE462.out|refine below_set ?_ GE469.out)|exact HB.out)⟩
    ·replace c27:=Bool.eq_false_iff.mpr c27
     subst c27
     have H1:(some ((⟨#[]⟩:ByteArray),(⟨#[]⟩:ByteArray),false,([]:List (S26)),4))=some (r1,r2,r3,r4,r5):=by rw [if_neg (show ¬ (false=true) by decide)] at H;exact H
     clear H
     have H:=H1
     clear H1
     simp only [Option.some.injEq,Prod.mk.injEq] at H
     obtain ⟨rfl,rfl,rfl,rfl,rfl⟩:=H
     have hnb78:=NB450_451.out
     have hnc78:=NB451_450.out
     have hnb79:=NB450_452.out
     have hnc79:=NB452_450.out
     obtain ⟨hcz80_0,hcz80_1,hcz80_2,hcz80_3⟩:=bc4_ BK450.out
     obtain ⟨hfz80_0,hfz80_1,hfz80_2,hfz80_3⟩:=bf4_ BK450.out
     go_wp2_with (first|((with_reducible refine gate_callee (f:=46) rfl ?_);refine goesL_ (some 23) rfl rfl Try.func46 (by kernel_rfl) rfl #[.agg #[.string a0_0, .string a0_1, .bool a0_2, .slice A0_3 l0_3.length c0_3], .slice A1 l1.length c1] rfl (by (try simp only [List.map_toArray,List.map_cons,List.map_nil]);first|done|rfl|(simp only [List.length_drop,List.length_take];rfl)) ?_;(with_reducible refine (impl_at.calls kj3 a0_0 a0_1 a0_2 (fun k_=>((P0_3_ k_∨w.heap.size≤k_)∧(k_≠gb450∧(k_≠gb451∧k_≠gb452)))) _ _ l0_3 _ _ l1 t455 t456 t457 t458 false _ ?side1 ?side2 ?side3 A26.out).mono ?_);(case side1=>exact HO_451003.out);(case side2=>repeat (first|exact (Kd.C_below HR1.out HB.out)|(with_reducible refine Kd.C_alloc ?_ _)|(with_reducible refine Kd.C_drewN ?_ _)|(with_reducible refine Kd.C_drew ?_)));(case side3=>exact HC1.out);rintro e w81 ⟨v459,rfl,ho0,hb⟩;refine ⟨_,rfl, ?_⟩;replace HO_451003:=A0_ (Kd.V_below HO_451003.out hb);have HO460:=A0_ (Kd.V_lower (Kd.V_mono (ok':=fun k_=>(P0_3_ k_∨w.heap.size≤k_)∧k_≠gb450∧k_≠gb451∧k_≠gb452) ho0 (fun k_ hk_=>⟨Or.elim hk_ (fun hs_=>(by first|exact hs_.1|(have hk0_:=hs_;revert hk0_;(try simp only [and_imp]);intros;(repeat' apply And.intro) <;> assumption))) (fun hn_=>(.inr (Nat.le_trans (below_size HB.out) hn_))),Or.elim hk_ (fun hs_=>(by first|exact hs_.2.1|(have hk0_:=hs_;revert hk0_;(try simp only [and_imp]);intros;(repeat' apply And.intro) <;> assumption))) (fun hn_=>(Kd.freshB BK450.out k_ hn_)),Or.elim hk_ (fun hs_=>(by first|exact hs_.2.2.1|(have hk0_:=hs_;revert hk0_;(try simp only [and_imp]);intros;(repeat' apply And.intro) <;> assumption))) (fun hn_=>(Kd.freshB BK451.out k_ hn_)),Or.elim hk_ (fun hs_=>(by first|exact hs_.2.2.2|(have hk0_:=hs_;revert hk0_;(try simp only [and_imp]);intros;(repeat' apply And.intro) <;> assumption))) (fun hn_=>(Kd.freshB BK452.out k_ hn_))⟩)) (below_size HB.out));replace BK450:=A0_ (blk_below BK450.out hb);replace BK451:=A0_ (blk_below BK451.out hb);replace BK452:=A0_ (blk_below BK452.out hb);replace HB:=A0_ (below_step HB.out hb);(try clear hb);(try clear hb2);(try clear hk);(try clear hi);(try clear ho0))|((with_reducible refine gate_dst (N:=8) rfl ?_);refine box_event ?hg (N:=8) ?hd (cs:= #[.string (⟨#[]⟩:ByteArray), .string (⟨#[]⟩:ByteArray), .bool false, .slice none 0 0]) (t:=26) ?hr ?_;(case hd=>rfl);(case hg=>rfl);(case hr=>first|(go_simp;done)|(go_simp;rfl));intro gb462 hg w82 hbox hb;replace HO_451003:=A0_ (Kd.V_below (Kd.V_elderB HO_451003.out gb462 (Nat.le_of_eq hg.symm)) hb);replace HO460:=A0_ (Kd.V_below (Kd.V_elderB HO460.out gb462 (Nat.le_of_eq hg.symm)) hb);have BK462:=A0_ (hbox);have GW462:=A0_ ((by rw [hg];exact (below_size HB.out):w.heap.size≤gb462));have GE462:=A0_ ((by rw [hg];exact (below_size HB.out):w.heap.size≤gb462));replace HB:=A0_ (below_step HB.out hb);have NB450_462:=A0_ ((by rw [hg];exact Nat.ne_of_lt (blk_lt BK450.out):gb450≠gb462));have NB462_450:=A0_ ((by rw [hg];exact Nat.ne_of_gt (blk_lt BK450.out):gb462≠gb450));replace BK450:=A0_ (blk_below BK450.out hb);have NB451_462:=A0_ ((by rw [hg];exact Nat.ne_of_lt (blk_lt BK451.out):gb451≠gb462));have NB462_451:=A0_ ((by rw [hg];exact Nat.ne_of_gt (blk_lt BK451.out):gb462≠gb451));replace BK451:=A0_ (blk_below BK451.out hb);have NB452_462:=A0_ ((by rw [hg];exact Nat.ne_of_lt (blk_lt BK452.out):gb452≠gb462));have NB462_452:=A0_ ((by rw [hg];exact Nat.ne_of_gt (blk_lt BK452.out):gb462≠gb452));replace BK452:=A0_ (blk_below BK452.out hb);clear hb hbox hg;have hnb83:=NB462_450.out;have hnc83:=NB450_462.out;have hnb84:=NB462_451.out;have hnc84:=NB451_462.out;have hnb85:=NB462_452.out;have hnc85:=NB452_462.out;obtain ⟨hcz86_0,hcz86_1,hcz86_2,hcz86_3⟩:=bc4_ BK462.out;obtain ⟨hfz86_0,hfz86_1,hfz86_2,hfz86_3⟩:=bf4_ BK462.out;obtain ⟨Ao87,co87,eo87⟩:=Kd.V_slice HO460.out;subst eo87;have hnb88:=NB452_451.out;have hnc88:=NB451_452.out;obtain ⟨hcz89_0,hcz89_1,hcz89_2,hcz89_3⟩:=bc4_ BK452.out;obtain ⟨hfz89_0,hfz89_1,hfz89_2,hfz89_3⟩:=bf4_ BK452.out))
     refine bodyPost_ret (results_ct rfl _ _ gb452 26 #[.string (⟨#[]⟩:ByteArray), .string (⟨#[]⟩:ByteArray), .bool false, .slice none 0 0] (0,0) _ rfl (by (with_reducible repeat (first|refine blk_drewN ?_ _|refine blk_drew ?_|refine blk_alloc ?_ _));refine blk_put (cs:= #[.string (⟨#[]⟩:ByteArray), .string (⟨#[]⟩:ByteArray), .bool false, .slice none 0 0]) ?_ 3 _ rfl;(with_reducible repeat (first|refine blk_drewN ?_ _|refine blk_drew ?_|refine blk_alloc ?_ _));refine blk_put (cs:= #[.string (⟨#[]⟩:ByteArray), .string (⟨#[]⟩:ByteArray), .bool false, .slice none 0 0]) ?_ 2 _ rfl;(with_reducible repeat (first|refine blk_drewN ?_ _|refine blk_drew ?_|refine blk_alloc ?_ _));refine blk_put (cs:= #[.string (⟨#[]⟩:ByteArray), .string (⟨#[]⟩:ByteArray), .bool false, .slice none 0 0]) ?_ 1 _ rfl;(with_reducible repeat (first|refine blk_drewN ?_ _|refine blk_drew ?_|refine blk_alloc ?_ _));refine blk_put (cs:= #[.string (⟨#[]⟩:ByteArray), .string (⟨#[]⟩:ByteArray), .bool false, .slice none 0 0]) ?_ 0 _ rfl;(with_reducible repeat (first|refine blk_drewN ?_ _|refine blk_drew ?_|refine blk_alloc ?_ _));refine blk_far ?_ NB452_462.out _;(with_reducible repeat (first|refine blk_drewN ?_ _|refine blk_drew ?_|refine blk_alloc ?_ _));refine blk_far ?_ NB452_462.out _;(with_reducible repeat (first|refine blk_drewN ?_ _|refine blk_drew ?_|refine blk_alloc ?_ _));refine blk_far ?_ NB452_462.out _;(with_reducible repeat (first|refine blk_drewN ?_ _|refine blk_drew ?_|refine blk_alloc ?_ _));refine blk_far ?_ NB452_462.out _;(with_reducible repeat (first|refine blk_drewN ?_ _|refine blk_drew ?_|refine blk_alloc ?_ _));exact BK452.out) Try.underlying26 rfl (by kernel_rfl)) rfl ?_
     exact ⟨_,by first|rfl|(simp [errW_none,errW_some] <;> rfl)|(simp [*,errW_none,errW_some] <;> rfl),by first|exact Kd.R_nil _ _ _ _ _|exact Kd.N_nil _ _ _ _ _|exact Kd.V_nil _ _ _ _ _|exact Kd.Q_nil _ _ _ _ _|exact Kd.S_nil _ _ _ _ _,by repeat (first|(with_reducible first|exact HB.out|apply below_alloc|apply pw_below_drewN|apply below_drew1|refine below_set ?_ GE450.out|refine below_set ?_ GE451.out|refine below_set ?_ GE452.out|refine below_set ?_ GE462.out)|exact HB.out)⟩
end Go.Proofs.Ytakpkmkjhndpjaa.Q
end
