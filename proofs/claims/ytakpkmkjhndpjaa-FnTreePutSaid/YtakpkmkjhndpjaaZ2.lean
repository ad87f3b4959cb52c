/- Texts of one claim laid one behind the other: plain functions that answer as the program's functions do, and the proofs that they do. No condition of its own. -/
import Derived.Test.YtakpkmkjhndpjaaZ1
section
namespace Go.Proofs.Ytakpkmkjhndpjaa.Q
open Go.RowKit Go.Proofs.YtakpkmkjhndpjaaW.PrintWords Go.Proofs.YtakpkmkjhndpjaaW.PrintLast Go.Proofs.YtakpkmkjhndpjaaW.PrintMore
attribute [local go_sem] max2_int min2_int max_two min_two max_three min_three max_four min_four
set_option linter.unusedVariables false
set_option linter.unusedSimpArgs false
def spec_DrawTreePut.f (k:Nat) (l0:List Int):Option (ByteArray × ByteArray × Bool × (List (S26)) × List Int × ByteArray × ByteArray × Bool × (List (S26))):=(spec_l01DrawCur.f l0).bind fun bt277=>((spec_l01DrawTree.f k bt277.1 bt277.2.1 bt277.2.2 3).bind fun bt281=>((spec_l01Cur_pick.f bt277.1 bt281.2.2.2.2.1 bt281.2.2.2.2.2 4).bind fun bt290=>(if bt290.1=0 then ((spec_l01DrawAny.f k bt277.1 bt290.2.1 bt290.2.2).bind fun bt293=>((spec_l01DrawPath.f k bt277.1 bt293.2.2.2.2.1 bt293.2.2.2.2.2 bt293.1 bt293.2.1 bt293.2.2.1 bt293.2.2.2.1).bind fun bt301=>((spec_l01DrawAny.f k bt277.1 bt301.2.1 bt301.2.2).bind fun bt306=>(some (bt293.1,bt293.2.1,bt293.2.2.1,bt293.2.2.2.1,bt301.1,bt306.1,bt306.2.1,bt306.2.2.1,bt306.2.2.2.1))))) else ((spec_l01DrawPath.f k bt277.1 bt290.2.1 bt290.2.2 bt281.1 bt281.2.1 bt281.2.2.1 bt281.2.2.2.1).bind fun bt314=>((spec_l01DrawAny.f k bt277.1 bt314.2.1 bt314.2.2).bind fun bt319=>(some (bt281.1,bt281.2.1,bt281.2.2.1,bt281.2.2.2.1,bt314.1,bt319.1,bt319.2.1,bt319.2.2.1,bt319.2.2.2.1)))))))
theorem spec_DrawTreePut.mono: ∀ a0 k,LeO (spec_DrawTreePut.f k a0) (spec_DrawTreePut.f (k + 1) a0):=by
 intro a0 k
 unfold spec_DrawTreePut.f
 repeat' first
   |(with_reducible exact spec_l01DrawAny.mono _ _ _ _)
   |(with_reducible exact spec_l01DrawPath.mono _ _ _ _ _ _ _ _)
   |(with_reducible exact spec_l01DrawTree.mono _ _ _ _ _)
   |(with_reducible exact LeO.refl _)
   |(with_reducible exact LeO.none _)
   |(with_reducible refine LeO.ite ?_ ?_)
   |(with_reducible refine LeO.bind ?_ (fun _=> ?_))
   |exact spec_l01DrawAny.mono _ _ _ _
   |exact spec_l01DrawPath.mono _ _ _ _ _ _ _ _
   |exact spec_l01DrawTree.mono _ _ _ _ _
   |exact LeO.none _
   |refine LeO.ite ?_ ?_
   |refine LeO.bind ?_ (fun _=> ?_)
set_option maxHeartbeats 8000000 in
set_option maxRecDepth 100000 in
theorem spec_DrawTreePut.calls (k:Nat) (A0:Option Addr) (c0:Nat) (l0:List Int) (r1:ByteArray) (r2:ByteArray) (r3:Bool) (r4:List (S26)) (r5:List Int) (r6:ByteArray) (r7:ByteArray) (r8:Bool) (r9:List (S26)) (w:World) (hr0:Kd.C (Kd.int .u8) w A0 l0.length l0) (hc0:l0.length≤c0) (h:spec_DrawTreePut.f k l0=some (r1,r2,r3,r4,r5,r6,r7,r8,r9)):
  Calls Try.prog 9 #[.slice A0 l0.length c0] w fun e w'=> ∃ v3_ v4_ v8_:Value,e= .returned (.tuple #[.agg #[.string r1, .string r2, .bool r3,v3_],v4_, .agg #[.string r6, .string r7, .bool r8,v8_]])∧Kd.N k26 26 w' w.heap.size (fun k_=>(w.heap.size≤k_)∧some k_≠(v4_:Value).ownBlock∧some k_≠(v8_:Value).ownBlock) v3_ r4∧Kd.R (Kd.int .i64) 3 w' w.heap.size (fun k_=>(w.heap.size≤k_)) v4_ r5∧Kd.N k26 26 w' w.heap.size (fun k_=>(w.heap.size≤k_)∧some k_≠(v3_:Value).ownBlock∧some k_≠(v4_:Value).ownBlock) v8_ r9∧Below w.heap.size w w':=by
 have hu26:=Try.underlying26
 have HR0:=A0_ hr0
 have HC0:=A0_ hc0
 clear hr0 hc0
 have HB:=A0_ (Below.refl w.heap.size w)
 have H:((spec_l01DrawCur.f l0).bind fun bt277=>((spec_l01DrawTree.f k bt277.1 bt277.2.1 bt277.2.2 3).bind fun bt281=>((spec_l01Cur_pick.f bt277.1 bt281.2.2.2.2.1 bt281.2.2.2.2.2 4).bind fun bt290=>(if bt290.1=0 then ((spec_l01DrawAny.f k bt277.1 bt290.2.1 bt290.2.2).bind fun bt293=>((spec_l01DrawPath.f k bt277.1 bt293.2.2.2.2.1 bt293.2.2.2.2.2 bt293.1 bt293.2.1 bt293.2.2.1 bt293.2.2.2.1).bind fun bt301=>((spec_l01DrawAny.f k bt277.1 bt301.2.1 bt301.2.2).bind fun bt306=>(some (bt293.1,bt293.2.1,bt293.2.2.1,bt293.2.2.2.1,bt301.1,bt306.1,bt306.2.1,bt306.2.2.1,bt306.2.2.2.1))))) else ((spec_l01DrawPath.f k bt277.1 bt290.2.1 bt290.2.2 bt281.1 bt281.2.1 bt281.2.2.1 bt281.2.2.2.1).bind fun bt314=>((spec_l01DrawAny.f k bt277.1 bt314.2.1 bt314.2.2).bind fun bt319=>(some (bt281.1,bt281.2.1,bt281.2.2.1,bt281.2.2.2.1,bt314.1,bt319.1,bt319.2.1,bt319.2.2.1,bt319.2.2.2.1))))))))=some (r1,r2,r3,r4,r5,r6,r7,r8,r9):=h
 clear h
 replace H:=Option.bind_eq_some_iff.mp H
 obtain ⟨⟨t277,t278,t279⟩,A20,H⟩:=H
 replace H:((spec_l01DrawTree.f k t277 t278 t279 3).bind fun bt281=>((spec_l01Cur_pick.f t277 bt281.2.2.2.2.1 bt281.2.2.2.2.2 4).bind fun bt290=>(if bt290.1=0 then ((spec_l01DrawAny.f k t277 bt290.2.1 bt290.2.2).bind fun bt293=>((spec_l01DrawPath.f k t277 bt293.2.2.2.2.1 bt293.2.2.2.2.2 bt293.1 bt293.2.1 bt293.2.2.1 bt293.2.2.2.1).bind fun bt301=>((spec_l01DrawAny.f k t277 bt301.2.1 bt301.2.2).bind fun bt306=>(some (bt293.1,bt293.2.1,bt293.2.2.1,bt293.2.2.2.1,bt301.1,bt306.1,bt306.2.1,bt306.2.2.1,bt306.2.2.2.1))))) else ((spec_l01DrawPath.f k t277 bt290.2.1 bt290.2.2 bt281.1 bt281.2.1 bt281.2.2.1 bt281.2.2.2.1).bind fun bt314=>((spec_l01DrawAny.f k t277 bt314.2.1 bt314.2.2).bind fun bt319=>(some (bt281.1,bt281.2.1,bt281.2.2.1,bt281.2.2.2.1,bt314.1,bt319.1,bt319.2.1,bt319.2.2.1,bt319.2.2.2.1)))))))=some (r1,r2,r3,r4,r5,r6,r7,r8,r9):=H
 have A2:=A0_ A20
 clear A20
 replace H:=Option.bind_eq_some_iff.mp H
 obtain ⟨⟨t281,t282,t283,t284,t287,t288⟩,A30,H⟩:=H
 replace H:((spec_l01Cur_pick.f t277 t287 t288 4).bind fun bt290=>(if bt290.1=0 then ((spec_l01DrawAny.f k t277 bt290.2.1 bt290.2.2).bind fun bt293=>((spec_l01DrawPath.f k t277 bt293.2.2.2.2.1 bt293.2.2.2.2.2 bt293.1 bt293.2.1 bt293.2.2.1 bt293.2.2.2.1).bind fun bt301=>((spec_l01DrawAny.f k t277 bt301.2.1 bt301.2.2).bind fun bt306=>(some (bt293.1,bt293.2.1,bt293.2.2.1,bt293.2.2.2.1,bt301.1,bt306.1,bt306.2.1,bt306.2.2.1,bt306.2.2.2.1))))) else ((spec_l01DrawPath.f k t277 bt290.2.1 bt290.2.2 t281 t282 t283 t284).bind fun bt314=>((spec_l01DrawAny.f k t277 bt314.2.1 bt314.2.2).bind fun bt319=>(some (t281,t282,t283,t284,bt314.1,bt319.1,bt319.2.1,bt319.2.2.1,bt319.2.2.2.1))))))=some (r1,r2,r3,r4,r5,r6,r7,r8,r9):=H
 have A3:=A0_ A30
 clear A30
 replace H:=Option.bind_eq_some_iff.mp H
 obtain ⟨⟨t290,t291,t292⟩,A40,H⟩:=H
 replace H:(if t290=0 then ((spec_l01DrawAny.f k t277 t291 t292).bind fun bt293=>((spec_l01DrawPath.f k t277 bt293.2.2.2.2.1 bt293.2.2.2.2.2 bt293.1 bt293.2.1 bt293.2.2.1 bt293.2.2.2.1).bind fun bt301=>((spec_l01DrawAny.f k t277 bt301.2.1 bt301.2.2).bind fun bt306=>(some (bt293.1,bt293.2.1,bt293.2.2.1,bt293.2.2.2.1,bt301.1,bt306.1,bt306.2.1,bt306.2.2.1,bt306.2.2.2.1))))) else ((spec_l01DrawPath.f k t277 t291 t292 t281 t282 t283 t284).bind fun bt314=>((spec_l01DrawAny.f k t277 bt314.2.1 bt314.2.2).bind fun bt319=>(some (t281,t282,t283,t284,bt314.1,bt319.1,bt319.2.1,bt319.2.2.1,bt319.2.2.2.1)))))=some (r1,r2,r3,r4,r5,r6,r7,r8,r9):=H
 have A4:=A0_ A40
 clear A40
 by_cases c5:t290=0
 ·rw [if_pos c5] at H
  have c5b0:(t290 == 0)=true:=beq_iff_eq.mpr c5
  have c5b1:(t290 != 0)=false:=bne_eq_false_iff_eq.mpr c5
  clear c5
  replace H:=Option.bind_eq_some_iff.mp H
  obtain ⟨⟨t293,t294,t295,t296,t299,t300⟩,A60,H⟩:=H
  replace H:((spec_l01DrawPath.f k t277 t299 t300 t293 t294 t295 t296).bind fun bt301=>((spec_l01DrawAny.f k t277 bt301.2.1 bt301.2.2).bind fun bt306=>(some (t293,t294,t295,t296,bt301.1,bt306.1,bt306.2.1,bt306.2.2.1,bt306.2.2.2.1))))=some (r1,r2,r3,r4,r5,r6,r7,r8,r9):=H
  have A6:=A0_ A60
  clear A60
  replace H:=Option.bind_eq_some_iff.mp H
  obtain ⟨⟨t301,t304,t305⟩,A70,H⟩:=H
  replace H:((spec_l01DrawAny.f k t277 t304 t305).bind fun bt306=>(some (t293,t294,t295,t296,t301,bt306.1,bt306.2.1,bt306.2.2.1,bt306.2.2.2.1)))=some (r1,r2,r3,r4,r5,r6,r7,r8,r9):=H
  have A7:=A0_ A70
  clear A70
  replace H:=Option.bind_eq_some_iff.mp H
  obtain ⟨⟨t306,t307,t308,t309,t312,t313⟩,A80,H⟩:=H
  replace H:(some (t293,t294,t295,t296,t301,t306,t307,t308,t309))=some (r1,r2,r3,r4,r5,r6,r7,r8,r9):=H
  have A8:=A0_ A80
  clear A80
  simp only [Option.some.injEq,Prod.mk.injEq] at H
  obtain ⟨rfl,rfl,rfl,rfl,rfl,rfl,rfl,rfl,rfl⟩:=H
  go_enter Try.func9,Try.ntmps9
  try go_wp2_with (first|((with_reducible refine gate_dst (N:=2) rfl ?_);refine box_event ?hg (N:=2) ?hd (cs:= #[.string (⟨#[]⟩:ByteArray), .string (⟨#[]⟩:ByteArray), .bool false, .slice none 0 0]) (t:=26) ?hr ?_;(case hd=>rfl);(case hg=>rfl);(case hr=>first|(go_simp;done)|(go_simp;rfl));intro gb275 hg w9 hbox hb;have BK275:=A0_ (hbox);have GW275:=A0_ ((by rw [hg];exact (below_size HB.out):w.heap.size≤gb275));have GE275:=A0_ ((by rw [hg];exact (below_size HB.out):w.heap.size≤gb275));replace HB:=A0_ (below_step HB.out hb);clear hb hbox hg)|((with_reducible refine gate_dst (N:=4) rfl ?_);refine box_event ?hg (N:=4) ?hd (cs:= #[.string (⟨#[]⟩:ByteArray), .string (⟨#[]⟩:ByteArray), .bool false, .slice none 0 0]) (t:=26) ?hr ?_;(case hd=>rfl);(case hg=>rfl);(case hr=>first|(go_simp;done)|(go_simp;rfl));intro gb276 hg w10 hbox hb;have BK276:=A0_ (hbox);have GW276:=A0_ ((by rw [hg];exact (below_size HB.out):w.heap.size≤gb276));have GE276:=A0_ ((by rw [hg];exact (below_size HB.out):w.heap.size≤gb276));replace HB:=A0_ (below_step HB.out hb);have NB275_276:=A0_ ((by rw [hg];exact Nat.ne_of_lt (blk_lt BK275.out):gb275≠gb276));have NB276_275:=A0_ ((by rw [hg];exact Nat.ne_of_gt (blk_lt BK275.out):gb276≠gb275));replace BK275:=A0_ (blk_below BK275.out hb);clear hb hbox hg)|((with_reducible refine gate_callee (f:=36) rfl ?_);refine goesL_ (some 9) rfl rfl Try.func36 (by kernel_rfl) rfl #[.slice A0 l0.length c0] rfl (by (try simp only [List.map_toArray,List.map_cons,List.map_nil]);first|done|rfl|(simp only [List.length_drop,List.length_take];rfl)) ?_;(with_reducible refine (spec_l01DrawCur.calls _ _ l0 t277 t278 t279 w _ ?side1 ?side2 ?side3 A2.out).mono ?_);(case side1=>repeat (first|(with_reducible first|exact HB.out|apply below_alloc|apply pw_below_drewN|apply below_drew1|refine below_set ?_ GE275.out|refine below_set ?_ GE276.out)|exact HB.out));(case side2=>exact HR0.out);(case side3=>exact HC0.out);rintro e w11 ⟨g280,rfl,hi,hb,hb2⟩;refine ⟨_,rfl, ?_⟩;replace HB:=A0_ (hb);have HI280:=A0_ (hi);have NB280_275:=A0_ (IsS104.ne_blk hi (blk_below BK275.out hb2) (by decide));have NB275_280:=A0_ (Ne.symm (IsS104.ne_blk hi (blk_below BK275.out hb2) (by decide)));replace BK275:=A0_ (blk_below BK275.out hb2);have NB280_276:=A0_ (IsS104.ne_blk hi (blk_below BK276.out hb2) (by decide));have NB276_280:=A0_ (Ne.symm (IsS104.ne_blk hi (blk_below BK276.out hb2) (by decide)));replace BK276:=A0_ (blk_below BK276.out hb2);(try clear hb);(try clear hb2);(try clear hk);(try clear hi))|((with_reducible refine gate_callee (f:=37) rfl ?_);refine goesL_ (some 11) rfl rfl Try.func37 (by kernel_rfl) rfl #[.pointer (some ⟨g280,0,none⟩), .int .i64 3] rfl (by (try simp only [List.map_toArray,List.map_cons,List.map_nil]);first|done|rfl|(simp only [List.length_drop,List.length_take];rfl)) ?_;(with_reducible refine (spec_l01DrawTree.calls k g280 t277 t278 t279 3 t281 t282 t283 t284 t287 t288 w _ ?side1 ?side2 A3.out).mono ?_);(case side1=>repeat (first|(with_reducible first|exact HI280.out|apply IsS104.alloc|apply IsS104.drewN|apply IsS104.drew|apply IsS104.set_1|apply IsS104.set_2|refine IsS104.far ?_ NB280_275.out _|refine IsS104.far ?_ NB280_276.out _)|exact HI280.out));(case side2=>repeat (first|(with_reducible first|exact HB.out|apply below_alloc|apply pw_below_drewN|apply below_drew1|refine below_set ?_ (IsS104.ge HI280.out)|refine below_set ?_ GE275.out|refine below_set ?_ GE276.out)|exact HB.out));rintro e w12 ⟨v285,rfl,ho0,hi,hb,hk⟩;refine ⟨_,rfl, ?_⟩;have HO286:=A0_ (Kd.N_lower (Kd.N_mono (ok':=fun k_=>(w.heap.size≤k_)∧k_≠gb275∧k_≠gb276∧k_≠g280) (Kd.R_N (Kd.R_bound ho0)) (fun k_ hk_=>⟨(Nat.le_trans (below_size HB.out) hk_.2.1),(Kd.freshB BK275.out k_ hk_.2.1),(Kd.freshB BK276.out k_ hk_.2.1),(IsS104.fresh HI280.out k_ hk_.2.1)⟩)) (below_size HB.out));replace BK275:=A0_ (KeepBut.blk hk BK275.out NB275_280.out (by simp));replace BK276:=A0_ (KeepBut.blk hk BK276.out NB276_280.out (by simp));replace HB:=A0_ (hb);replace HI280:=A0_ (hi);(try clear hb);(try clear hb2);(try clear hk);(try clear hi);(try clear ho0))|((with_reducible refine gate_dst (N:=6) rfl ?_);refine box_event ?hg (N:=6) ?hd (cs:= #[.string (⟨#[]⟩:ByteArray), .string (⟨#[]⟩:ByteArray), .bool false, .slice none 0 0]) (t:=26) ?hr ?_;(case hd=>rfl);(case hg=>rfl);(case hr=>first|(go_simp;done)|(go_simp;rfl));intro gb289 hg w13 hbox hb;replace HO286:=A0_ (Kd.N_below (Kd.N_elderB HO286.out gb289 (Nat.le_of_eq hg.symm)) hb);have BK289:=A0_ (hbox);have GW289:=A0_ ((by rw [hg];exact (below_size HB.out):w.heap.size≤gb289));have GE289:=A0_ ((by rw [hg];exact (below_size HB.out):w.heap.size≤gb289));replace HB:=A0_ (below_step HB.out hb);have NB275_289:=A0_ ((by rw [hg];exact Nat.ne_of_lt (blk_lt BK275.out):gb275≠gb289));have NB289_275:=A0_ ((by rw [hg];exact Nat.ne_of_gt (blk_lt BK275.out):gb289≠gb275));replace BK275:=A0_ (blk_below BK275.out hb);have NB276_289:=A0_ ((by rw [hg];exact Nat.ne_of_lt (blk_lt BK276.out):gb276≠gb289));have NB289_276:=A0_ ((by rw [hg];exact Nat.ne_of_gt (blk_lt BK276.out):gb289≠gb276));replace BK276:=A0_ (blk_below BK276.out hb);have NB280_289:=A0_ ((by rw [hg];exact Nat.ne_of_lt (IsS104.lt (show IsS104 w _ g280 t277 t287 t288 from by repeat (first|(with_reducible first|exact HI280.out|apply IsS104.alloc|apply IsS104.drewN|apply IsS104.drew|apply IsS104.set_1|apply IsS104.set_2|refine IsS104.far ?_ NB280_275.out _|refine IsS104.far ?_ NB280_276.out _)|exact HI280.out))):g280≠gb289));have NB289_280:=A0_ ((by rw [hg];exact Nat.ne_of_gt (IsS104.lt (show IsS104 w _ g280 t277 t287 t288 from by repeat (first|(with_reducible first|exact HI280.out|apply IsS104.alloc|apply IsS104.drewN|apply IsS104.drew|apply IsS104.set_1|apply IsS104.set_2|refine IsS104.far ?_ NB280_275.out _|refine IsS104.far ?_ NB280_276.out _)|exact HI280.out))):gb289≠g280));replace HI280:=A0_ (IsS104.below HI280.out hb);clear hb hbox hg;have hnb14:=NB289_275.out;have hnc14:=NB275_289.out;have hnb15:=NB289_276.out;have hnc15:=NB276_289.out;have hnb16:=NB289_280.out;have hnc16:=NB280_289.out;obtain ⟨hcz17_0,hcz17_1,hcz17_2,hcz17_3⟩:=bc4_ BK289.out;obtain ⟨hfz17_0,hfz17_1,hfz17_2,hfz17_3⟩:=bf4_ BK289.out;obtain ⟨Ao18,co18,eo18⟩:=Kd.N_slice HO286.out;subst eo18)|((with_reducible refine gate_callee (f:=38) rfl ?_);refine goesL_ (some 13) rfl rfl Try.func38 (by kernel_rfl) rfl #[.pointer (some ⟨g280,0,none⟩), .int .i64 4] rfl (by (try simp only [List.map_toArray,List.map_cons,List.map_nil]);first|done|rfl|(simp only [List.length_drop,List.length_take];rfl)) ?_;(with_reducible refine (spec_l01Cur_pick.calls g280 t277 t287 t288 4 t290 t291 t292 w _ ?side1 ?side2 A4.out).mono ?_);(case side1=>repeat (first|(with_reducible first|exact HI280.out|apply IsS104.alloc|apply IsS104.drewN|apply IsS104.drew|apply IsS104.set_1|apply IsS104.set_2|refine IsS104.far ?_ NB280_275.out _|refine IsS104.far ?_ NB280_276.out _|refine IsS104.far ?_ NB280_289.out _)|exact HI280.out));(case side2=>repeat (first|(with_reducible first|exact HB.out|apply below_alloc|apply pw_below_drewN|apply below_drew1|refine below_set ?_ (IsS104.ge HI280.out)|refine below_set ?_ GE275.out|refine below_set ?_ GE276.out|refine below_set ?_ GE289.out)|exact HB.out));rintro e w19 ⟨rfl,hi,hb,hk⟩;refine ⟨_,rfl, ?_⟩;replace BK275:=A0_ (KeepBut.blk hk (g':=gb275) (o:= .cells #[.string (⟨#[]⟩:ByteArray), .string (⟨#[]⟩:ByteArray), .bool false, .slice none 0 0] 26 (0,0)) (by (with_reducible repeat (first|refine blk_drewN ?_ _|refine blk_drew ?_|refine blk_alloc ?_ _));refine blk_far ?_ NB275_289.out _;(with_reducible repeat (first|refine blk_drewN ?_ _|refine blk_drew ?_|refine blk_alloc ?_ _));refine blk_far ?_ NB275_289.out _;(with_reducible repeat (first|refine blk_drewN ?_ _|refine blk_drew ?_|refine blk_alloc ?_ _));refine blk_far ?_ NB275_289.out _;(with_reducible repeat (first|refine blk_drewN ?_ _|refine blk_drew ?_|refine blk_alloc ?_ _));refine blk_far ?_ NB275_289.out _;(with_reducible repeat (first|refine blk_drewN ?_ _|refine blk_drew ?_|refine blk_alloc ?_ _));exact BK275.out) NB275_280.out (by simp));replace BK276:=A0_ (KeepBut.blk hk (g':=gb276) (o:= .cells #[.string (⟨#[]⟩:ByteArray), .string (⟨#[]⟩:ByteArray), .bool false, .slice none 0 0] 26 (0,0)) (by (with_reducible repeat (first|refine blk_drewN ?_ _|refine blk_drew ?_|refine blk_alloc ?_ _));refine blk_far ?_ NB276_289.out _;(with_reducible repeat (first|refine blk_drewN ?_ _|refine blk_drew ?_|refine blk_alloc ?_ _));refine blk_far ?_ NB276_289.out _;(with_reducible repeat (first|refine blk_drewN ?_ _|refine blk_drew ?_|refine blk_alloc ?_ _));refine blk_far ?_ NB276_289.out _;(with_reducible repeat (first|refine blk_drewN ?_ _|refine blk_drew ?_|refine blk_alloc ?_ _));refine blk_far ?_ NB276_289.out _;(with_reducible repeat (first|refine blk_drewN ?_ _|refine blk_drew ?_|refine blk_alloc ?_ _));exact BK276.out) NB276_280.out (by simp));replace HO286:=A0_ (Kd.N_mono (Kd.N_keep (Kd.N_mono (ok:=fun k_=>((((w.heap.size≤k_))∧(k_≠gb275∧(k_≠gb276∧k_≠g280)))∧k_≠gb289)) (Kd.N_mono (Kd.N_far (p:=⟨gb289,3,none⟩) (Kd.N_far (p:=⟨gb289,2,none⟩) (Kd.N_far (p:=⟨gb289,1,none⟩) (Kd.N_far (p:=⟨gb289,0,none⟩) (Kd.N_mono HO286.out (fun k_ hk=>(⟨hk,hk.2⟩:_∧k_≠gb289))) (fun _ hk=>hk.2) (.string t281)) (fun _ hk=>hk.2) (.string t282)) (fun _ hk=>hk.2) (.bool t283)) (fun _ hk=>hk.2) (.slice Ao18 t284.length co18)) (fun _ h_=>h_.1)) (fun k_ hk_=>(⟨hk_,(by first|exact hk_.1.2.2.2|(have hk0_:=hk_;revert hk0_;(try simp only [and_imp]);intros;(repeat' apply And.intro) <;> assumption))⟩:_∧k_≠g280))) hk (fun _ h=>h.2)) (fun _ h=>h.1));replace BK289:=A0_ (KeepBut.blk hk (g':=gb289) (o:= .cells #[.string t281, .string t282, .bool t283, .slice Ao18 t284.length co18] 26 (0,0)) (by (with_reducible repeat (first|refine blk_drewN ?_ _|refine blk_drew ?_|refine blk_alloc ?_ _));refine blk_put (cs:= #[.string t281, .string t282, .bool t283, .slice none 0 0]) ?_ 3 _ rfl;(with_reducible repeat (first|refine blk_drewN ?_ _|refine blk_drew ?_|refine blk_alloc ?_ _));refine blk_put (cs:= #[.string t281, .string t282, .bool false, .slice none 0 0]) ?_ 2 _ rfl;(with_reducible repeat (first|refine blk_drewN ?_ _|refine blk_drew ?_|refine blk_alloc ?_ _));refine blk_put (cs:= #[.string t281, .string (⟨#[]⟩:ByteArray), .bool false, .slice none 0 0]) ?_ 1 _ rfl;(with_reducible repeat (first|refine blk_drewN ?_ _|refine blk_drew ?_|refine blk_alloc ?_ _));refine blk_put (cs:= #[.string (⟨#[]⟩:ByteArray), .string (⟨#[]⟩:ByteArray), .bool false, .slice none 0 0]) ?_ 0 _ rfl;(with_reducible repeat (first|refine blk_drewN ?_ _|refine blk_drew ?_|refine blk_alloc ?_ _));exact BK289.out) NB289_280.out (by simp));replace HB:=A0_ (hb);replace HI280:=A0_ (hi);(try clear hb);(try clear hb2);(try clear hk);(try clear hi))|((with_reducible refine gate_callee (f:=39) rfl ?_);refine goesL_ (some 16) rfl rfl Try.func39 (by kernel_rfl) rfl #[.pointer (some ⟨g280,0,none⟩)] rfl (by (try simp only [List.map_toArray,List.map_cons,List.map_nil]);first|done|rfl|(simp only [List.length_drop,List.length_take];rfl)) ?_;(with_reducible refine (spec_l01DrawAny.calls k g280 t277 t291 t292 t293 t294 t295 t296 t299 t300 w _ ?side1 ?side2 A6.out).mono ?_);(case side1=>repeat (first|(with_reducible first|exact HI280.out|apply IsS104.alloc|apply IsS104.drewN|apply IsS104.drew|apply IsS104.set_1|apply IsS104.set_2|refine IsS104.far ?_ NB280_275.out _|refine IsS104.far ?_ NB280_276.out _|refine IsS104.far ?_ NB280_289.out _)|exact HI280.out));(case side2=>repeat (first|(with_reducible first|exact HB.out|apply below_alloc|apply pw_below_drewN|apply below_drew1|refine below_set ?_ (IsS104.ge HI280.out)|refine below_set ?_ GE275.out|refine below_set ?_ GE276.out|refine below_set ?_ GE289.out)|exact HB.out));rintro e w20 ⟨v297,rfl,ho0,hi,hb,hk⟩;refine ⟨_,rfl, ?_⟩;have HO298:=A0_ (Kd.N_lower (Kd.N_mono (ok':=fun k_=>(w.heap.size≤k_)∧some k_≠(.slice Ao18 t284.length co18:Value).ownBlock∧k_≠gb275∧k_≠gb276∧k_≠gb289∧k_≠g280) ho0 (fun k_ hk_=>⟨(Nat.le_trans (below_size HB.out) hk_),(Kd.fresh' (Kd.N_lt HO286.out) k_ hk_),(Kd.freshB BK275.out k_ hk_),(Kd.freshB BK276.out k_ hk_),(Kd.freshB BK289.out k_ hk_),(IsS104.fresh HI280.out k_ hk_)⟩)) (below_size HB.out));replace BK275:=A0_ (KeepBut.blk hk BK275.out NB275_280.out (by simp));replace BK276:=A0_ (KeepBut.blk hk BK276.out NB276_280.out (by simp));replace HO286:=A0_ (Kd.N_mono (Kd.N_told (Kd.N_oldK (Kd.N_mono (ok:=fun k_=>((((w.heap.size≤k_))∧(k_≠gb275∧(k_≠gb276∧k_≠g280)))∧k_≠gb289)) HO286.out (fun k_ hk_=>(⟨hk_,(by first|exact hk_.1.2.2.2|(have hk0_:=hk_;revert hk0_;(try simp only [and_imp]);intros;(repeat' apply And.intro) <;> assumption))⟩:_∧k_≠g280))) hk) (Kd.N_base ho0)) (fun _ h_=>h_.1));replace BK289:=A0_ (KeepBut.blk hk BK289.out NB289_280.out (by simp));replace HB:=A0_ (hb);replace HI280:=A0_ (hi);(try clear hb);(try clear hb2);(try clear hk);(try clear hi);(try clear ho0);obtain ⟨hcz21_0,hcz21_1,hcz21_2,hcz21_3⟩:=bc4_ BK289.out;obtain ⟨hfz21_0,hfz21_1,hfz21_2,hfz21_3⟩:=bf4_ BK289.out;obtain ⟨Ao22,co22,eo22⟩:=Kd.N_slice HO298.out;subst eo22)|((with_reducible refine gate_store (t:=26) (p:=6) rfl ?_);refine store_event (t:=26) (p:=6) (v:= ?vo_w23) (w1:=((((w20.setCell ⟨gb289,0,none⟩ (.string t293)).setCell ⟨gb289,1,none⟩ (.string t294)).setCell ⟨gb289,2,none⟩ (.bool t295)).setCell ⟨gb289,3,none⟩ (.slice Ao22 t296.length co22))) ?hg ?ho ?hn ?hr ?_;(case ho=>rfl);(case hg=>rfl);(case hn=>rfl);(case hr=>first|(go_simp;done)|(go_simp;rfl));intro w23 hw;have n0_:Aside0 (Kd.N k26 26 w23 w.heap.size (fun k_=>(w.heap.size≤k_)∧some k_≠(.slice Ao22 t296.length co22:Value).ownBlock∧k_≠gb275∧k_≠gb276∧k_≠g280∧k_≠gb289) (.slice Ao18 t284.length co18) t284):=⟨(by rw [hw];exact (Kd.N_mono (Kd.N_far (p:=⟨gb289,3,none⟩) (Kd.N_far (p:=⟨gb289,2,none⟩) (Kd.N_far (p:=⟨gb289,1,none⟩) (Kd.N_far (p:=⟨gb289,0,none⟩) (Kd.N_mono HO286.out (fun k_ hk=>(⟨hk,hk.1.2⟩:_∧k_≠gb289))) (fun _ hk=>hk.2) (.string t293)) (fun _ hk=>hk.2) (.string t294)) (fun _ hk=>hk.2) (.bool t295)) (fun _ hk=>hk.2) (.slice Ao22 t296.length co22)) (fun _ hk=>⟨hk.1.1.1.1,⟨hk.1.2,⟨hk.1.1.1.2.1,⟨hk.1.1.1.2.2.1,⟨hk.1.1.1.2.2.2,hk.1.1.2⟩⟩⟩⟩⟩)))⟩;have n1_:Aside0 (Kd.N k26 26 w23 w.heap.size (fun k_=>(w.heap.size≤k_)∧some k_≠(.slice Ao18 t284.length co18:Value).ownBlock∧k_≠gb275∧k_≠gb276∧k_≠gb289∧k_≠g280) (.slice Ao22 t296.length co22) t296):=⟨(by rw [hw];exact (Kd.N_mono (Kd.N_far (p:=⟨gb289,3,none⟩) (Kd.N_far (p:=⟨gb289,2,none⟩) (Kd.N_far (p:=⟨gb289,1,none⟩) (Kd.N_far (p:=⟨gb289,0,none⟩) (Kd.N_mono HO298.out (fun k_ hk=>(⟨hk,hk.2.2.2.2.1⟩:_∧k_≠gb289))) (fun _ hk=>hk.2) (.string t293)) (fun _ hk=>hk.2) (.string t294)) (fun _ hk=>hk.2) (.bool t295)) (fun _ hk=>hk.2) (.slice Ao22 t296.length co22)) (fun _ hk=>⟨hk.1.1,⟨hk.1.2.1,⟨hk.1.2.2.1,⟨hk.1.2.2.2.1,⟨hk.1.2.2.2.2.1,hk.1.2.2.2.2.2⟩⟩⟩⟩⟩)))⟩;have n2_:Aside0 (w23.heap[gb275]?= some (.cells #[.string (⟨#[]⟩:ByteArray), .string (⟨#[]⟩:ByteArray), .bool false, .slice none 0 0] 26 (0,0))):=⟨(by rw [hw];exact (by (with_reducible repeat (first|refine blk_drewN ?_ _|refine blk_drew ?_|refine blk_alloc ?_ _));refine blk_far ?_ NB275_289.out _;(with_reducible repeat (first|refine blk_drewN ?_ _|refine blk_drew ?_|refine blk_alloc ?_ _));refine blk_far ?_ NB275_289.out _;(with_reducible repeat (first|refine blk_drewN ?_ _|refine blk_drew ?_|refine blk_alloc ?_ _));refine blk_far ?_ NB275_289.out _;(with_reducible repeat (first|refine blk_drewN ?_ _|refine blk_drew ?_|refine blk_alloc ?_ _));refine blk_far ?_ NB275_289.out _;(with_reducible repeat (first|refine blk_drewN ?_ _|refine blk_drew ?_|refine blk_alloc ?_ _));exact BK275.out))⟩;have n3_:Aside0 (w23.heap[gb276]?= some (.cells #[.string (⟨#[]⟩:ByteArray), .string (⟨#[]⟩:ByteArray), .bool false, .slice none 0 0] 26 (0,0))):=⟨(by rw [hw];exact (by (with_reducible repeat (first|refine blk_drewN ?_ _|refine blk_drew ?_|refine blk_alloc ?_ _));refine blk_far ?_ NB276_289.out _;(with_reducible repeat (first|refine blk_drewN ?_ _|refine blk_drew ?_|refine blk_alloc ?_ _));refine blk_far ?_ NB276_289.out _;(with_reducible repeat (first|refine blk_drewN ?_ _|refine blk_drew ?_|refine blk_alloc ?_ _));refine blk_far ?_ NB276_289.out _;(with_reducible repeat (first|refine blk_drewN ?_ _|refine blk_drew ?_|refine blk_alloc ?_ _));refine blk_far ?_ NB276_289.out _;(with_reducible repeat (first|refine blk_drewN ?_ _|refine blk_drew ?_|refine blk_alloc ?_ _));exact BK276.out))⟩;have n4_:Aside0 (w23.heap[gb289]?= some (.cells #[.string t293, .string t294, .bool t295, .slice Ao22 t296.length co22] 26 (0,0))):=⟨(by rw [hw];exact (by (with_reducible repeat (first|refine blk_drewN ?_ _|refine blk_drew ?_|refine blk_alloc ?_ _));refine blk_put (cs:= #[.string t293, .string t294, .bool t295, .slice Ao18 t284.length co18]) ?_ 3 _ rfl;(with_reducible repeat (first|refine blk_drewN ?_ _|refine blk_drew ?_|refine blk_alloc ?_ _));refine blk_put (cs:= #[.string t293, .string t294, .bool t283, .slice Ao18 t284.length co18]) ?_ 2 _ rfl;(with_reducible repeat (first|refine blk_drewN ?_ _|refine blk_drew ?_|refine blk_alloc ?_ _));refine blk_put (cs:= #[.string t293, .string t282, .bool t283, .slice Ao18 t284.length co18]) ?_ 1 _ rfl;(with_reducible repeat (first|refine blk_drewN ?_ _|refine blk_drew ?_|refine blk_alloc ?_ _));refine blk_put (cs:= #[.string t281, .string t282, .bool t283, .slice Ao18 t284.length co18]) ?_ 0 _ rfl;(with_reducible repeat (first|refine blk_drewN ?_ _|refine blk_drew ?_|refine blk_alloc ?_ _));exact BK289.out))⟩;have n5_:Aside0 (IsS104 w w23 g280 t277 t299 t300):=⟨(by rw [hw];exact (by repeat (first|(with_reducible first|exact HI280.out|apply IsS104.alloc|apply IsS104.drewN|apply IsS104.drew|apply IsS104.set_1|apply IsS104.set_2|refine IsS104.far ?_ NB280_275.out _|refine IsS104.far ?_ NB280_276.out _|refine IsS104.far ?_ NB280_289.out _)|exact HI280.out)))⟩;have n6_:Aside0 (Below w.heap.size w w23):=⟨(by rw [hw];exact (by repeat (first|(with_reducible first|exact HB.out|apply below_alloc|apply pw_below_drewN|apply below_drew1|refine below_set ?_ (IsS104.ge HI280.out)|refine below_set ?_ GE275.out|refine below_set ?_ GE276.out|refine below_set ?_ GE289.out)|exact HB.out)))⟩;clear hw;clear HO286;clear HO298;clear BK275;clear BK276;clear BK289;clear HI280;clear HB;have HO286:=n0_;have HO298:=n1_;have BK275:=n2_;have BK276:=n3_;have BK289:=n4_;have HI280:=n5_;have HB:=n6_;clear n0_ n1_ n2_ n3_ n4_ n5_ n6_;obtain ⟨hcz24_0,hcz24_1,hcz24_2,hcz24_3⟩:=bc4_ BK289.out;obtain ⟨hfz24_0,hfz24_1,hfz24_2,hfz24_3⟩:=bf4_ BK289.out)|((with_reducible refine gate_callee (f:=40) rfl ?_);refine goesL_ (some 19) rfl rfl Try.func40 (by kernel_rfl) rfl #[.pointer (some ⟨g280,0,none⟩), .agg #[.string t293, .string t294, .bool t295, .slice Ao22 t296.length co22]] rfl (by (try simp only [List.map_toArray,List.map_cons,List.map_nil]);first|done|rfl|(simp only [List.length_drop,List.length_take];rfl)) ?_;(with_reducible refine (spec_l01DrawPath.calls k g280 t277 t299 t300 t293 t294 t295 (fun k_=>((w.heap.size≤k_)∧(some k_≠(.slice Ao18 t284.length co18:Value).ownBlock∧(k_≠gb275∧(k_≠gb276∧(k_≠gb289∧k_≠g280)))))) _ _ t296 t301 t304 t305 w _ ?side1 ?side2 ?side3 A7.out).mono ?_);(case side1=>repeat (first|(with_reducible first|exact HI280.out|apply IsS104.alloc|apply IsS104.drewN|apply IsS104.drew|apply IsS104.set_1|apply IsS104.set_2|refine IsS104.far ?_ NB280_275.out _|refine IsS104.far ?_ NB280_276.out _|refine IsS104.far ?_ NB280_289.out _)|exact HI280.out));(case side2=>repeat (first|(with_reducible first|exact HB.out|apply below_alloc|apply pw_below_drewN|apply below_drew1|refine below_set ?_ (IsS104.ge HI280.out)|refine below_set ?_ GE275.out|refine below_set ?_ GE276.out|refine below_set ?_ GE289.out)|exact HB.out));(case side3=>exact Kd.V_mono (Kd.N_V (HO298.out)) (fun k_ hk_=>⟨hk_,(by first|exact hk_.2.2.2.2.2|(have hk0_:=hk_;revert hk0_;(try simp only [and_imp]);intros;(repeat' apply And.intro) <;> assumption))⟩));rintro e w25 ⟨v302,rfl,ho0,hi,hb,hk⟩;refine ⟨_,rfl, ?_⟩;replace BK275:=A0_ (KeepBut.blk hk BK275.out NB275_280.out (by simp));replace BK276:=A0_ (KeepBut.blk hk BK276.out NB276_280.out (by simp));replace HO286:=A0_ (Kd.N_mono (Kd.N_told (Kd.N_oldK (Kd.N_mono (ok:=fun k_=>(((w.heap.size≤k_))∧(some k_≠(.slice Ao22 t296.length co22:Value).ownBlock∧(k_≠gb275∧(k_≠gb276∧(k_≠g280∧k_≠gb289)))))) HO286.out (fun k_ hk_=>(⟨hk_,(by first|exact hk_.2.2.2.2.1|(have hk0_:=hk_;revert hk0_;(try simp only [and_imp]);intros;(repeat' apply And.intro) <;> assumption))⟩:_∧k_≠g280))) hk) (Kd.R_base ho0)) (fun _ h_=>h_.1));replace BK289:=A0_ (KeepBut.blk hk BK289.out NB289_280.out (by simp));replace HO298:=A0_ (Kd.N_mono (Kd.N_told (Kd.N_oldK (Kd.N_mono (ok:=fun k_=>(((w.heap.size≤k_))∧(some k_≠(.slice Ao18 t284.length co18:Value).ownBlock∧(k_≠gb275∧(k_≠gb276∧(k_≠gb289∧k_≠g280)))))) HO298.out (fun k_ hk_=>(⟨hk_,(by first|exact hk_.2.2.2.2.2|(have hk0_:=hk_;revert hk0_;(try simp only [and_imp]);intros;(repeat' apply And.intro) <;> assumption))⟩:_∧k_≠g280))) hk) (Kd.R_base ho0)) (fun _ h_=>h_.1));have HO303:=A0_ (Kd.R_lower (Kd.R_newM (M:=fun k_=>(w.heap.size≤k_)) (Kd.R_mono (ok':=fun k_=>True) ho0 (fun _ hk_=>trivial)) (below_size HB.out) (fun k_ h_=>h_)) (below_size HB.out));replace HB:=A0_ (hb);replace HI280:=A0_ (hi);(try clear hb);(try clear hb2);(try clear hk);(try clear hi);(try clear ho0)))
  have n0_:=A0_ (Kd.N_drew HO286.out)
  have n1_:=A0_ (Kd.N_drew HO298.out)
  have n2_:=A0_ (Kd.R_drew HO303.out)
  have n3_:=A0_ (blk_drew BK275.out)
  have n4_:=A0_ (blk_drew BK276.out)
  have n5_:=A0_ (blk_drew BK289.out)
  have n6_:=A0_ (IsS104.drew HI280.out)
  have n7_:=A0_ (below_drew1 HB.out)
  clear HO286
  clear HO298
  clear HO303
  clear BK275
  clear BK276
  clear BK289
  clear HI280
  clear HB
  have HO286:=n0_
  have HO298:=n1_
  have HO303:=n2_
  have BK275:=n3_
  have BK276:=n4_
  have BK289:=n5_
  have HI280:=n6_
  have HB:=n7_
  clear n0_ n1_ n2_ n3_ n4_ n5_ n6_ n7_
  refine start_ (n:=7) (S:=fun w'=>w'.cell? ⟨gb289,0,none⟩=some (.string t293)∧w'.cell? ⟨gb289,1,none⟩=some (.string t294)∧w'.cell? ⟨gb289,2,none⟩=some (.bool t295)∧w'.cell? ⟨gb289,3,none⟩=some (.slice Ao22 t296.length co22)) (ds:= []) #[false,false,false,false,false,false,false] (by kernel_rfl) rfl rfl ⟨(blk_cell BK289.out 0).trans rfl,(blk_cell BK289.out 1).trans rfl,(blk_cell BK289.out 2).trans rfl,(blk_cell BK289.out 3).trans rfl⟩ (fun hHeld=> ?_)
  generalize w25.drew=w26 at HO286 HO298 HO303 BK275 BK276 BK289 HI280 HB hHeld ⊢
  refine pure_ (i:=1) (N:=some 21) (v:= ?_) (a':= ?_) #[false,true,false,false,false,false,false] rfl rfl (by kernel_rfl) (fun _ _ _ h=>h) (Or.inl ⟨by rfl, ?_⟩) ?_ ?_
  rotate_left
  ·intro w'
   go_simp
   with_reducible rfl
  rotate_left
  ·simp only [Act.put,List.setIfInBounds_toArray,List.set_cons_zero,List.set_cons_succ,i64_w,i32_w]
   rfl
  refine pure_ (i:=2) (N:=some 22) (v:= ?_) (a':= ?_) #[false,true,true,false,false,false,false] rfl rfl (by kernel_rfl) (fun _ _ _ h=>h) (Or.inl ⟨by rfl, ?_⟩) ?_ ?_
  rotate_left
  ·intro w'
   go_simp
   with_reducible rfl
  rotate_left
  ·simp only [Act.put,List.setIfInBounds_toArray,List.set_cons_zero,List.set_cons_succ,i64_w,i32_w]
   rfl
  refine take_ (i:=0) (N:=some 20) (v:= ?_) (a':= ?_) #[true,true,true,false,false,false,false] rfl rfl (by kernel_rfl) (fun _ _ _ h=>h) (Or.inl ⟨by rfl, ?_⟩) hHeld ?_ ?_
  rotate_left
  ·rintro w' ⟨s0,s1,s2,s3⟩
   go_simp
   with_reducible rfl
  rotate_left
  ·simp only [Act.put,List.setIfInBounds_toArray,List.set_cons_zero,List.set_cons_succ,i64_w,i32_w]
   rfl
  refine one_ (i:=3) (N:=some 23) #[true,true,true,true,false,false,false] rfl rfl (by kernel_rfl) (by decide) (fun K hK=> ?_)
  refine goes_ Try.func39 (by kernel_rfl) rfl #[.pointer (some ⟨g280,0,none⟩)] (by rfl) rfl rfl (by (try simp only [List.map_toArray,List.map_cons,List.map_nil]);first|done|rfl|(simp only [List.length_drop,List.length_take];rfl)) ?_
  with_reducible refine (spec_l01DrawAny.calls k g280 t277 t304 t305 t306 t307 t308 t309 t312 t313 w _ ?side1 ?side2 A8.out).mono ?_
  (case side1=>repeat (first|(with_reducible first|exact HI280.out|apply IsS104.alloc|apply IsS104.drewN|apply IsS104.drew|apply IsS104.set_1|apply IsS104.set_2|refine IsS104.far ?_ NB280_275.out _|refine IsS104.far ?_ NB280_276.out _|refine IsS104.far ?_ NB280_289.out _)|exact HI280.out))
  (case side2=>repeat (first|(with_reducible first|exact HB.out|apply below_alloc|apply pw_below_drewN|apply below_drew1|refine below_set ?_ (IsS104.ge HI280.out)|refine below_set ?_ GE275.out|refine below_set ?_ GE276.out|refine below_set ?_ GE289.out)|exact HB.out))
  rintro e w27 ⟨v310,rfl,ho0,hi,hb,hk⟩
  refine ⟨_,rfl, ?_⟩
  have n0_:=A0_ (KeepBut.blk hk BK275.out NB275_280.out (by simp))
  have n1_:=A0_ (KeepBut.blk hk BK276.out NB276_280.out (by simp))
  have n2_:=A0_ (Kd.N_mono (Kd.N_told (Kd.N_oldK (Kd.N_mono (ok:=fun k_=>((((w.heap.size≤k_))∧(some k_≠(.slice Ao22 t296.length co22:Value).ownBlock∧(k_≠gb275∧(k_≠gb276∧(k_≠g280∧k_≠gb289)))))∧some k_≠(v302:Value).ownBlock)) HO286.out (fun k_ hk_=>(⟨hk_,(by first|exact hk_.1.2.2.2.2.1|(have hk0_:=hk_;revert hk0_;(try simp only [and_imp]);intros;(repeat' apply And.intro) <;> assumption))⟩:_∧k_≠g280))) hk) (Kd.N_base ho0)) (fun _ h_=>h_.1))
  have n3_:=A0_ (KeepBut.blk hk BK289.out NB289_280.out (by simp))
  have n4_:=A0_ (Kd.N_mono (Kd.N_told (Kd.N_oldK (Kd.N_mono (ok:=fun k_=>((((w.heap.size≤k_))∧(some k_≠(.slice Ao18 t284.length co18:Value).ownBlock∧(k_≠gb275∧(k_≠gb276∧(k_≠gb289∧k_≠g280)))))∧some k_≠(v302:Value).ownBlock)) HO298.out (fun k_ hk_=>(⟨hk_,(by first|exact hk_.1.2.2.2.2.2|(have hk0_:=hk_;revert hk0_;(try simp only [and_imp]);intros;(repeat' apply And.intro) <;> assumption))⟩:_∧k_≠g280))) hk) (Kd.N_base ho0)) (fun _ h_=>h_.1))
  have n5_:=A0_ (Kd.R_mono (Kd.R_keep (IsS104.apart (show IsS104 w _ g280 t277 t304 t305 from by repeat (first|(with_reducible first|exact HI280.out|apply IsS104.alloc|apply IsS104.drewN|apply IsS104.drew|apply IsS104.set_1|apply IsS104.set_2|refine IsS104.far ?_ NB280_275.out _|refine IsS104.far ?_ NB280_276.out _|refine IsS104.far ?_ NB280_289.out _)|exact HI280.out)) HO303.out (by decide)) hk (fun _ h=>h.2)) (fun _ h=>h.1))
  have n6_:=A0_ (Kd.N_lower (Kd.N_mono (ok':=fun k_=>(w.heap.size≤k_)∧some k_≠(.slice Ao18 t284.length co18:Value).ownBlock∧some k_≠(.slice Ao22 t296.length co22:Value).ownBlock∧some k_≠(v302:Value).ownBlock∧k_≠gb275∧k_≠gb276∧k_≠gb289∧k_≠g280) ho0 (fun k_ hk_=>⟨(Nat.le_trans (below_size HB.out) hk_),(Kd.fresh' (Kd.N_lt HO286.out) k_ hk_),(Kd.fresh' (Kd.N_lt HO298.out) k_ hk_),(Kd.fresh' (Kd.R_lt HO303.out) k_ hk_),(Kd.freshB BK275.out k_ hk_),(Kd.freshB BK276.out k_ hk_),(Kd.freshB BK289.out k_ hk_),(IsS104.fresh HI280.out k_ hk_)⟩)) (below_size HB.out))
  have n7_:=A0_ (hb)
  have n8_:=A0_ (hi)
  clear BK275
  clear BK276
  clear HO286
  clear BK289
  clear HO298
  clear HO303
  clear HB
  clear HI280
  have BK275:=n0_
  have BK276:=n1_
  have HO286:=n2_
  have BK289:=n3_
  have HO298:=n4_
  have HO303:=n5_
  have HO311:=n6_
  have HB:=n7_
  have HI280:=n8_
  clear n0_ n1_ n2_ n3_ n4_ n5_ n6_ n7_ n8_
  (try clear hb)
  (try clear hb2)
  (try clear hk)
  (try clear hi)
  (try clear ho0)
  obtain ⟨Ao35,co35,eo35⟩:=Kd.N_slice HO311.out
  (first|subst eo35|(injection eo35 with f1_ f2_ f3_;have f4_:=f1_.symm;have f5_:=f3_.symm;clear f1_ f2_ f3_;subst f4_;subst f5_))
  refine hK.out _ _ ⟨(blk_cell BK289.out 0).trans rfl,(blk_cell BK289.out 1).trans rfl,(blk_cell BK289.out 2).trans rfl,(blk_cell BK289.out 3).trans rfl⟩ (fun hHeld=> ?_)
  clear hK K
  refine norm_ (a':= ?_) ?_ ?_
  rotate_left
  ·show Act.put _ (some 23) _=_
   simp only [Act.put,List.setIfInBounds_toArray,List.set_cons_zero,List.set_cons_succ,i64_w,i32_w]
   rfl
  refine one_ (i:=4) (N:=none) #[true,true,true,true,true,false,false] rfl rfl (by kernel_rfl) (by decide) (fun K hK=> ?_)
  have hs28:w27.cell? ⟨gb275,0,none⟩=some (.string (⟨#[]⟩:ByteArray)):=(blk_cell BK275.out 0).trans rfl
  have hfs28:=blk_frozen BK275.out 0
  have hns28_1:=NB276_275.out
  have hns28_2:=NB289_275.out
  have hms28_1:=NB275_276.out
  have hms28_2:=NB275_289.out
  have hs29:w27.cell? ⟨gb275,1,none⟩=some (.string (⟨#[]⟩:ByteArray)):=(blk_cell BK275.out 1).trans rfl
  have hfs29:=blk_frozen BK275.out 1
  have hns29_1:=NB276_275.out
  have hns29_2:=NB289_275.out
  have hms29_1:=NB275_276.out
  have hms29_2:=NB275_289.out
  have hs30:w27.cell? ⟨gb275,2,none⟩=some (.bool false):=(blk_cell BK275.out 2).trans rfl
  have hfs30:=blk_frozen BK275.out 2
  have hns30_1:=NB276_275.out
  have hns30_2:=NB289_275.out
  have hms30_1:=NB275_276.out
  have hms30_2:=NB275_289.out
  have hs31:w27.cell? ⟨gb275,3,none⟩=some (.slice none 0 0):=(blk_cell BK275.out 3).trans rfl
  have hfs31:=blk_frozen BK275.out 3
  have hns31_1:=NB276_275.out
  have hns31_2:=NB289_275.out
  have hms31_1:=NB275_276.out
  have hms31_2:=NB275_289.out
  refine skip_ (w1:= ?_) (by rfl) rfl ?_ ?_
  rotate_left
  ·go_simp
   rfl
  refine hK.out _ _ ⟨((cell_far (p:=⟨gb275,_,none⟩) NB289_275.out _).trans (((cell_far (p:=⟨gb275,_,none⟩) NB289_275.out _).trans (((cell_far (p:=⟨gb275,_,none⟩) NB289_275.out _).trans (((cell_far (p:=⟨gb275,_,none⟩) NB289_275.out _).trans (hHeld.1)))))))),((cell_far (p:=⟨gb275,_,none⟩) NB289_275.out _).trans (((cell_far (p:=⟨gb275,_,none⟩) NB289_275.out _).trans (((cell_far (p:=⟨gb275,_,none⟩) NB289_275.out _).trans (((cell_far (p:=⟨gb275,_,none⟩) NB289_275.out _).trans (hHeld.2.1)))))))),((cell_far (p:=⟨gb275,_,none⟩) NB289_275.out _).trans (((cell_far (p:=⟨gb275,_,none⟩) NB289_275.out _).trans (((cell_far (p:=⟨gb275,_,none⟩) NB289_275.out _).trans (((cell_far (p:=⟨gb275,_,none⟩) NB289_275.out _).trans (hHeld.2.2.1)))))))),((cell_far (p:=⟨gb275,_,none⟩) NB289_275.out _).trans (((cell_far (p:=⟨gb275,_,none⟩) NB289_275.out _).trans (((cell_far (p:=⟨gb275,_,none⟩) NB289_275.out _).trans (((cell_far (p:=⟨gb275,_,none⟩) NB289_275.out _).trans (hHeld.2.2.2))))))))⟩ (fun hHeld=> ?_)
  clear hK K
  refine pure_ (i:=5) (N:=some 3) (v:= ?_) (a':= ?_) #[true,true,true,true,true,true,false] rfl rfl (by kernel_rfl) (fun _ _ _ h=>h) (Or.inl ⟨by rfl, ?_⟩) ?_ ?_
  rotate_left
  ·intro w'
   go_simp
   with_reducible rfl
  rotate_left
  ·simp only [Act.put,List.setIfInBounds_toArray,List.set_cons_zero,List.set_cons_succ,i64_w,i32_w]
   rfl
  refine one_ (i:=6) (N:=none) #[true,true,true,true,true,true,true] rfl rfl (by kernel_rfl) (by decide) (fun K hK=> ?_)
  have hs32:w27.cell? ⟨gb276,0,none⟩=some (.string (⟨#[]⟩:ByteArray)):=(blk_cell BK276.out 0).trans rfl
  have hfs32:=blk_frozen BK276.out 0
  have hns32_0:=NB275_276.out
  have hns32_2:=NB289_276.out
  have hms32_0:=NB276_275.out
  have hms32_2:=NB276_289.out
  have hs33:w27.cell? ⟨gb276,1,none⟩=some (.string (⟨#[]⟩:ByteArray)):=(blk_cell BK276.out 1).trans rfl
  have hfs33:=blk_frozen BK276.out 1
  have hns33_0:=NB275_276.out
  have hns33_2:=NB289_276.out
  have hms33_0:=NB276_275.out
  have hms33_2:=NB276_289.out
  have hs34:w27.cell? ⟨gb276,2,none⟩=some (.bool false):=(blk_cell BK276.out 2).trans rfl
  have hfs34:=blk_frozen BK276.out 2
  have hns34_0:=NB275_276.out
  have hns34_2:=NB289_276.out
  have hms34_0:=NB276_275.out
  have hms34_2:=NB276_289.out
  have hs36:w27.cell? ⟨gb276,3,none⟩=some (.slice none 0 0):=(blk_cell BK276.out 3).trans rfl
  have hfs36:=blk_frozen BK276.out 3
  have hns36_0:=NB275_276.out
  have hns36_2:=NB289_276.out
  have hms36_0:=NB276_275.out
  have hms36_2:=NB276_289.out
  refine skip_ (w1:= ?_) (by rfl) rfl ?_ ?_
  rotate_left
  ·go_simp
   rfl
  refine hK.out _ _ ⟨((cell_far (p:=⟨gb276,_,none⟩) NB289_276.out _).trans (((cell_far (p:=⟨gb276,_,none⟩) NB289_276.out _).trans (((cell_far (p:=⟨gb276,_,none⟩) NB289_276.out _).trans (((cell_far (p:=⟨gb276,_,none⟩) NB289_276.out _).trans (hHeld.1)))))))),((cell_far (p:=⟨gb276,_,none⟩) NB289_276.out _).trans (((cell_far (p:=⟨gb276,_,none⟩) NB289_276.out _).trans (((cell_far (p:=⟨gb276,_,none⟩) NB289_276.out _).trans (((cell_far (p:=⟨gb276,_,none⟩) NB289_276.out _).trans (hHeld.2.1)))))))),((cell_far (p:=⟨gb276,_,none⟩) NB289_276.out _).trans (((cell_far (p:=⟨gb276,_,none⟩) NB289_276.out _).trans (((cell_far (p:=⟨gb276,_,none⟩) NB289_276.out _).trans (((cell_far (p:=⟨gb276,_,none⟩) NB289_276.out _).trans (hHeld.2.2.1)))))))),((cell_far (p:=⟨gb276,_,none⟩) NB289_276.out _).trans (((cell_far (p:=⟨gb276,_,none⟩) NB289_276.out _).trans (((cell_far (p:=⟨gb276,_,none⟩) NB289_276.out _).trans (((cell_far (p:=⟨gb276,_,none⟩) NB289_276.out _).trans (hHeld.2.2.2))))))))⟩ (fun hHeld=> ?_)
  clear hK K
  refine done_ (by kernel_rfl) ?_
  try go_wp2
  refine bodyPost_ret (results_list (rs:= [.cell 2 26, .tmp 3, .cell 4 26]) rfl (by simp) (.cell gb275 26 #[.string t293, .string t294, .bool t295, .slice Ao22 t296.length co22] (0,0) _ rfl (by (with_reducible repeat (first|refine blk_drewN ?_ _|refine blk_drew ?_|refine blk_alloc ?_ _));refine blk_far ?_ NB275_276.out _;(with_reducible repeat (first|refine blk_drewN ?_ _|refine blk_drew ?_|refine blk_alloc ?_ _));refine blk_far ?_ NB275_276.out _;(with_reducible repeat (first|refine blk_drewN ?_ _|refine blk_drew ?_|refine blk_alloc ?_ _));refine blk_far ?_ NB275_276.out _;(with_reducible repeat (first|refine blk_drewN ?_ _|refine blk_drew ?_|refine blk_alloc ?_ _));refine blk_far ?_ NB275_276.out _;(with_reducible repeat (first|refine blk_drewN ?_ _|refine blk_drew ?_|refine blk_alloc ?_ _));refine blk_put (cs:= #[.string t293, .string t294, .bool t295, .slice none 0 0]) ?_ 3 _ rfl;(with_reducible repeat (first|refine blk_drewN ?_ _|refine blk_drew ?_|refine blk_alloc ?_ _));refine blk_put (cs:= #[.string t293, .string t294, .bool false, .slice none 0 0]) ?_ 2 _ rfl;(with_reducible repeat (first|refine blk_drewN ?_ _|refine blk_drew ?_|refine blk_alloc ?_ _));refine blk_put (cs:= #[.string t293, .string (⟨#[]⟩:ByteArray), .bool false, .slice none 0 0]) ?_ 1 _ rfl;(with_reducible repeat (first|refine blk_drewN ?_ _|refine blk_drew ?_|refine blk_alloc ?_ _));refine blk_put (cs:= #[.string (⟨#[]⟩:ByteArray), .string (⟨#[]⟩:ByteArray), .bool false, .slice none 0 0]) ?_ 0 _ rfl;(with_reducible repeat (first|refine blk_drewN ?_ _|refine blk_drew ?_|refine blk_alloc ?_ _));exact BK275.out) Try.underlying26 rfl (by kernel_rfl) (.tmp (.cell gb276 26 #[.string t306, .string t307, .bool t308, .slice Ao35 t309.length co35] (0,0) _ rfl (by (with_reducible repeat (first|refine blk_drewN ?_ _|refine blk_drew ?_|refine blk_alloc ?_ _));refine blk_put (cs:= #[.string t306, .string t307, .bool t308, .slice none 0 0]) ?_ 3 _ rfl;(with_reducible repeat (first|refine blk_drewN ?_ _|refine blk_drew ?_|refine blk_alloc ?_ _));refine blk_put (cs:= #[.string t306, .string t307, .bool false, .slice none 0 0]) ?_ 2 _ rfl;(with_reducible repeat (first|refine blk_drewN ?_ _|refine blk_drew ?_|refine blk_alloc ?_ _));refine blk_put (cs:= #[.string t306, .string (⟨#[]⟩:ByteArray), .bool false, .slice none 0 0]) ?_ 1 _ rfl;(with_reducible repeat (first|refine blk_drewN ?_ _|refine blk_drew ?_|refine blk_alloc ?_ _));refine blk_put (cs:= #[.string (⟨#[]⟩:ByteArray), .string (⟨#[]⟩:ByteArray), .bool false, .slice none 0 0]) ?_ 0 _ rfl;(with_reducible repeat (first|refine blk_drewN ?_ _|refine blk_drew ?_|refine blk_alloc ?_ _));refine blk_far ?_ NB276_275.out _;(with_reducible repeat (first|refine blk_drewN ?_ _|refine blk_drew ?_|refine blk_alloc ?_ _));refine blk_far ?_ NB276_275.out _;(with_reducible repeat (first|refine blk_drewN ?_ _|refine blk_drew ?_|refine blk_alloc ?_ _));refine blk_far ?_ NB276_275.out _;(with_reducible repeat (first|refine blk_drewN ?_ _|refine blk_drew ?_|refine blk_alloc ?_ _));refine blk_far ?_ NB276_275.out _;(with_reducible repeat (first|refine blk_drewN ?_ _|refine blk_drew ?_|refine blk_alloc ?_ _));exact BK276.out) Try.underlying26 rfl (by kernel_rfl) .nil)))) rfl ?_
  exact ⟨_,_,_,by first|rfl|(simp [errW_none,errW_some] <;> rfl)|(simp [*,errW_none,errW_some] <;> rfl),by (with_reducible repeat (first|apply Kd.N_alloc|apply Kd.N_drewN|apply Kd.N_drew));exact Kd.N_mono (Kd.N_far (p:=⟨gb276,3,none⟩) (Kd.N_far (p:=⟨gb276,2,none⟩) (Kd.N_far (p:=⟨gb276,1,none⟩) (Kd.N_far (p:=⟨gb276,0,none⟩) (Kd.N_far (p:=⟨gb275,3,none⟩) (Kd.N_far (p:=⟨gb275,2,none⟩) (Kd.N_far (p:=⟨gb275,1,none⟩) (Kd.N_far (p:=⟨gb275,0,none⟩) (Kd.N_mono (Kd.N_mono HO298.out (fun k_ hk=>(⟨hk,hk.1.1.2.2.1⟩:_∧k_≠gb275))) (fun k_ hk=>(⟨hk,hk.1.1.1.2.2.2.1⟩:_∧k_≠gb276))) (fun _ hk=>hk.1.2) (.string t293)) (fun _ hk=>hk.1.2) (.string t294)) (fun _ hk=>hk.1.2) (.bool t295)) (fun _ hk=>hk.1.2) (.slice Ao22 t296.length co22)) (fun _ hk=>hk.2) (.string t306)) (fun _ hk=>hk.2) (.string t307)) (fun _ hk=>hk.2) (.bool t308)) (fun _ hk=>hk.2) (.slice Ao35 t309.length co35)) (fun _ hk=>⟨hk.1.1.1.1.1,⟨hk.1.1.1.2,hk.1.1.2⟩⟩),by (with_reducible repeat (first|apply Kd.R_alloc|apply Kd.R_drewN|apply Kd.R_drew));exact Kd.R_mono (Kd.R_far (p:=⟨gb276,3,none⟩) (Kd.R_far (p:=⟨gb276,2,none⟩) (Kd.R_far (p:=⟨gb276,1,none⟩) (Kd.R_far (p:=⟨gb276,0,none⟩) (Kd.R_far (p:=⟨gb275,3,none⟩) (Kd.R_far (p:=⟨gb275,2,none⟩) (Kd.R_far (p:=⟨gb275,1,none⟩) (Kd.R_far (p:=⟨gb275,0,none⟩) (Kd.R_types (Kd.R_types HO303.out BK275.out (by decide)) BK276.out (by decide)) (fun _ hk=>hk.1.2) (.string t293)) (fun _ hk=>hk.1.2) (.string t294)) (fun _ hk=>hk.1.2) (.bool t295)) (fun _ hk=>hk.1.2) (.slice Ao22 t296.length co22)) (fun _ hk=>hk.2) (.string t306)) (fun _ hk=>hk.2) (.string t307)) (fun _ hk=>hk.2) (.bool t308)) (fun _ hk=>hk.2) (.slice Ao35 t309.length co35)) (fun _ hk=>hk.1.1.1),by (with_reducible repeat (first|apply Kd.N_alloc|apply Kd.N_drewN|apply Kd.N_drew));exact Kd.N_mono (Kd.N_far (p:=⟨gb276,3,none⟩) (Kd.N_far (p:=⟨gb276,2,none⟩) (Kd.N_far (p:=⟨gb276,1,none⟩) (Kd.N_far (p:=⟨gb276,0,none⟩) (Kd.N_far (p:=⟨gb275,3,none⟩) (Kd.N_far (p:=⟨gb275,2,none⟩) (Kd.N_far (p:=⟨gb275,1,none⟩) (Kd.N_far (p:=⟨gb275,0,none⟩) (Kd.N_mono (Kd.N_mono HO311.out (fun k_ hk=>(⟨hk,hk.2.2.2.2.1⟩:_∧k_≠gb275))) (fun k_ hk=>(⟨hk,hk.1.2.2.2.2.2.1⟩:_∧k_≠gb276))) (fun _ hk=>hk.1.2) (.string t293)) (fun _ hk=>hk.1.2) (.string t294)) (fun _ hk=>hk.1.2) (.bool t295)) (fun _ hk=>hk.1.2) (.slice Ao22 t296.length co22)) (fun _ hk=>hk.2) (.string t306)) (fun _ hk=>hk.2) (.string t307)) (fun _ hk=>hk.2) (.bool t308)) (fun _ hk=>hk.2) (.slice Ao35 t309.length co35)) (fun _ hk=>⟨hk.1.1.1,⟨hk.1.1.2.2.1,hk.1.1.2.2.2.1⟩⟩),by repeat (first|(with_reducible first|exact HB.out|apply below_alloc|apply pw_below_drewN|apply below_drew1|refine below_set ?_ (IsS104.ge HI280.out)|refine below_set ?_ GE275.out|refine below_set ?_ GE276.out|refine below_set ?_ GE289.out)|exact HB.out)⟩
 ·rw [if_neg c5] at H
  have c5b0:(t290 == 0)=false:=beq_eq_false_iff_ne.mpr c5
  have c5b1:(t290 != 0)=true:=bne_iff_ne.mpr c5
  replace H:=Option.bind_eq_some_iff.mp H
  obtain ⟨⟨t314,t317,t318⟩,A370,H⟩:=H
  replace H:((spec_l01DrawAny.f k t277 t317 t318).bind fun bt319=>(some (t281,t282,t283,t284,t314,bt319.1,bt319.2.1,bt319.2.2.1,bt319.2.2.2.1)))=some (r1,r2,r3,r4,r5,r6,r7,r8,r9):=H
  have A37:=A0_ A370
  clear A370
  replace H:=Option.bind_eq_some_iff.mp H
  obtain ⟨⟨t319,t320,t321,t322,t325,t326⟩,A380,H⟩:=H
  replace H:(some (t281,t282,t283,t284,t314,t319,t320,t321,t322))=some (r1,r2,r3,r4,r5,r6,r7,r8,r9):=H
  have A38:=A0_ A380
  clear A380
  simp only [Option.some.injEq,Prod.mk.injEq] at H
  obtain ⟨rfl,rfl,rfl,rfl,rfl,rfl,rfl,rfl,rfl⟩:=H
  go_enter Try.func9,Try.ntmps9
  try go_wp2_with (first|((with_reducible refine gate_dst (N:=2) rfl ?_);refine box_event ?hg (N:=2) ?hd (cs:= #[.string (⟨#[]⟩:ByteArray), .string (⟨#[]⟩:ByteArray), .bool false, .slice none 0 0]) (t:=26) ?hr ?_;(case hd=>rfl);(case hg=>rfl);(case hr=>first|(go_simp;done)|(go_simp;rfl));intro gb275 hg w39 hbox hb;have BK275:=A0_ (hbox);have GW275:=A0_ ((by rw [hg];exact (below_size HB.out):w.heap.size≤gb275));have GE275:=A0_ ((by rw [hg];exact (below_size HB.out):w.heap.size≤gb275));replace HB:=A0_ (below_step HB.out hb);clear hb hbox hg)|((with_reducible refine gate_dst (N:=4) rfl ?_);refine box_event ?hg (N:=4) ?hd (cs:= #[.string (⟨#[]⟩:ByteArray), .string (⟨#[]⟩:ByteArray), .bool false, .slice none 0 0]) (t:=26) ?hr ?_;(case hd=>rfl);(case hg=>rfl);(case hr=>first|(go_simp;done)|(go_simp;rfl));intro gb276 hg w40 hbox hb;have BK276:=A0_ (hbox);have GW276:=A0_ ((by rw [hg];exact (below_size HB.out):w.heap.size≤gb276));have GE276:=A0_ ((by rw [hg];exact (below_size HB.out):w.heap.size≤gb276));replace HB:=A0_ (below_step HB.out hb);have NB275_276:=A0_ ((by rw [hg];exact Nat.ne_of_lt (blk_lt BK275.out):gb275≠gb276));have NB276_275:=A0_ ((by rw [hg];exact Nat.ne_of_gt (blk_lt BK275.out):gb276≠gb275));replace BK275:=A0_ (blk_below BK275.out hb);clear hb hbox hg)|((with_reducible refine gate_callee (f:=36) rfl ?_);refine goesL_ (some 9) rfl rfl Try.func36 (by kernel_rfl) rfl #[.slice A0 l0.length c0] rfl (by (try simp only [List.map_toArray,List.map_cons,List.map_nil]);first|done|rfl|(simp only [List.length_drop,List.length_take];rfl)) ?_;(with_reducible refine (spec_l01DrawCur.calls _ _ l0 t277 t278 t279 w _ ?side1 ?side2 ?side3 A2.out).mono ?_);(case side1=>repeat (first|(with_reducible first|exact HB.out|apply below_alloc|apply pw_below_drewN|apply below_drew1|refine below_set ?_ GE275.out|refine below_set ?_ GE276.out)|exact HB.out));(case side2=>exact HR0.out);(case side3=>exact HC0.out);rintro e w41 ⟨g280,rfl,hi,hb,hb2⟩;refine ⟨_,rfl, ?_⟩;replace HB:=A0_ (hb);have HI280:=A0_ (hi);have NB280_275:=A0_ (IsS104.ne_blk hi (blk_below BK275.out hb2) (by decide));have NB275_280:=A0_ (Ne.symm (IsS104.ne_blk hi (blk_below BK275.out hb2) (by decide)));replace BK275:=A0_ (blk_below BK275.out hb2);have NB280_276:=A0_ (IsS104.ne_blk hi (blk_below BK276.out hb2) (by decide));have NB276_280:=A0_ (Ne.symm (IsS104.ne_blk hi (blk_below BK276.out hb2) (by decide)));replace BK276:=A0_ (blk_below BK276.out hb2);(try clear hb);(try clear hb2);(try clear hk);(try clear hi))|((with_reducible refine gate_callee (f:=37) rfl ?_);refine goesL_ (some 11) rfl rfl Try.func37 (by kernel_rfl) rfl #[.pointer (some ⟨g280,0,none⟩), .int .i64 3] rfl (by (try simp only [List.map_toArray,List.map_cons,List.map_nil]);first|done|rfl|(simp only [List.length_drop,List.length_take];rfl)) ?_;(with_reducible refine (spec_l01DrawTree.calls k g280 t277 t278 t279 3 t281 t282 t283 t284 t287 t288 w _ ?side1 ?side2 A3.out).mono ?_);(case side1=>repeat (first|(with_reducible first|exact HI280.out|apply IsS104.alloc|apply IsS104.drewN|apply IsS104.drew|apply IsS104.set_1|apply IsS104.set_2|refine IsS104.far ?_ NB280_275.out _|refine IsS104.far ?_ NB280_276.out _)|exact HI280.out));(case side2=>repeat (first|(with_reducible first|exact HB.out|apply below_alloc|apply pw_below_drewN|apply below_drew1|refine below_set ?_ (IsS104.ge HI280.out)|refine below_set ?_ GE275.out|refine below_set ?_ GE276.out)|exact HB.out));rintro e w42 ⟨v285,rfl,ho0,hi,hb,hk⟩;refine ⟨_,rfl, ?_⟩;have HO286:=A0_ (Kd.N_lower (Kd.N_mono (ok':=fun k_=>(w.heap.size≤k_)∧k_≠gb275∧k_≠gb276∧k_≠g280) (Kd.R_N (Kd.R_bound ho0)) (fun k_ hk_=>⟨(Nat.le_trans (below_size HB.out) hk_.2.1),(Kd.freshB BK275.out k_ hk_.2.1),(Kd.freshB BK276.out k_ hk_.2.1),(IsS104.fresh HI280.out k_ hk_.2.1)⟩)) (below_size HB.out));replace BK275:=A0_ (KeepBut.blk hk BK275.out NB275_280.out (by simp));replace BK276:=A0_ (KeepBut.blk hk BK276.out NB276_280.out (by simp));replace HB:=A0_ (hb);replace HI280:=A0_ (hi);(try clear hb);(try clear hb2);(try clear hk);(try clear hi);(try clear ho0))|((with_reducible refine gate_dst (N:=6) rfl ?_);refine box_event ?hg (N:=6) ?hd (cs:= #[.string (⟨#[]⟩:ByteArray), .string (⟨#[]⟩:ByteArray), .bool false, .slice none 0 0]) (t:=26) ?hr ?_;(case hd=>rfl);(case hg=>rfl);(case hr=>first|(go_simp;done)|(go_simp;rfl));intro gb289 hg w43 hbox hb;replace HO286:=A0_ (Kd.N_below (Kd.N_elderB HO286.out gb289 (Nat.le_of_eq hg.symm)) hb);have BK289:=A0_ (hbox);have GW289:=A0_ ((by rw [hg];exact (below_size HB.out):w.heap.size≤gb289));have GE289:=A0_ ((by rw [hg];exact (below_size HB.out):w.heap.size≤gb289));replace HB:=A0_ (below_step HB.out hb);have NB275_289:=A0_ ((by rw [hg];exact Nat.ne_of_lt (blk_lt BK275.out):gb275≠gb289));have NB289_275:=A0_ ((by rw [hg];exact Nat.ne_of_gt (blk_lt BK275.out):gb289≠gb275));replace BK275:=A0_ (blk_below BK275.out hb);have NB276_289:=A0_ ((by rw [hg];exact Nat.ne_of_lt (blk_lt BK276.out):gb276≠gb289));have NB289_276:=A0_ ((by rw [hg];exact Nat.ne_of_gt (blk_lt BK276.out):gb289≠gb276));replace BK276:=A0_ (blk_below BK276.out hb);have NB280_289:=A0_ ((by rw [hg];exact Nat.ne_of_lt (IsS104.lt (show IsS104 w _ g280 t277 t287 t288 from by repeat (first|(with_reducible first|exact HI280.out|apply IsS104.alloc|apply IsS104.drewN|apply IsS104.drew|apply IsS104.set_1|apply IsS104.set_2|refine IsS104.far ?_ NB280_275.out _|refine IsS104.far ?_ NB280_276.out _)|exact HI280.out))):g280≠gb289));have NB289_280:=A0_ ((by rw [hg];exact Nat.ne_of_gt (IsS104.lt (show IsS104 w _ g280 t277 t287 t288 from by repeat (first|(with_reducible first|exact HI280.out|apply IsS104.alloc|apply IsS104.drewN|apply IsS104.drew|apply IsS104.set_1|apply IsS104.set_2|refine IsS104.far ?_ NB280_275.out _|refine IsS104.far ?_ NB280_276.out _)|exact HI280.out))):gb289≠g280));replace HI280:=A0_ (IsS104.below HI280.out hb);clear hb hbox hg;have hnb44:=NB289_275.out;have hnc44:=NB275_289.out;have hnb45:=NB289_276.out;have hnc45:=NB276_289.out;have hnb46:=NB289_280.out;have hnc46:=NB280_289.out;obtain ⟨hcz47_0,hcz47_1,hcz47_2,hcz47_3⟩:=bc4_ BK289.out;obtain ⟨hfz47_0,hfz47_1,hfz47_2,hfz47_3⟩:=bf4_ BK289.out;obtain ⟨Ao48,co48,eo48⟩:=Kd.N_slice HO286.out;subst eo48)|((with_reducible refine gate_callee (f:=38) rfl ?_);refine goesL_ (some 13) rfl rfl Try.func38 (by kernel_rfl) rfl #[.pointer (some ⟨g280,0,none⟩), .int .i64 4] rfl (by (try simp only [List.map_toArray,List.map_cons,List.map_nil]);first|done|rfl|(simp only [List.length_drop,List.length_take];rfl)) ?_;(with_reducible refine (spec_l01Cur_pick.calls g280 t277 t287 t288 4 t290 t291 t292 w _ ?side1 ?side2 A4.out).mono ?_);(case side1=>repeat (first|(with_reducible first|exact HI280.out|apply IsS104.alloc|apply IsS104.drewN|apply IsS104.drew|apply IsS104.set_1|apply IsS104.set_2|refine IsS104.far ?_ NB280_275.out _|refine IsS104.far ?_ NB280_276.out _|refine IsS104.far ?_ NB280_289.out _)|exact HI280.out));(case side2=>repeat (first|(with_reducible first|exact HB.out|apply below_alloc|apply pw_below_drewN|apply below_drew1|refine below_set ?_ (IsS104.ge HI280.out)|refine below_set ?_ GE275.out|refine below_set ?_ GE276.out|refine below_set ?_ GE289.out)|exact HB.out));rintro e w49 ⟨rfl,hi,hb,hk⟩;refine ⟨_,rfl, ?_⟩;replace BK275:=A0_ (KeepBut.blk hk (g':=gb275) (o:= .cells #[.string (⟨#[]⟩:ByteArray), .string (⟨#[]⟩:ByteArray), .bool false, .slice none 0 0] 26 (0,0)) (by (with_reducible repeat (first|refine blk_drewN ?_ _|refine blk_drew ?_|refine blk_alloc ?_ _));refine blk_far ?_ NB275_289.out _;(with_reducible repeat (first|refine blk_drewN ?_ _|refine blk_drew ?_|refine blk_alloc ?_ _));refine blk_far ?_ NB275_289.out _;(with_reducible repeat (first|refine blk_drewN ?_ _|refine blk_drew ?_|refine blk_alloc ?_ _));refine blk_far ?_ NB275_289.out _;(with_reducible repeat (first|refine blk_drewN ?_ _|refine blk_drew ?_|refine blk_alloc ?_ _));refine blk_far ?_ NB275_289.out _;(with_reducible repeat (first|refine blk_drewN ?_ _|refine blk_drew ?_|refine blk_alloc ?_ _));exact BK275.out) NB275_280.out (by simp));replace BK276:=A0_ (KeepBut.blk hk (g':=gb276) (o:= .cells #[.string (⟨#[]⟩:ByteArray), .string (⟨#[]⟩:ByteArray), .bool false, .slice none 0 0] 26 (0,0)) (by (with_reducible repeat (first|refine blk_drewN ?_ _|refine blk_drew ?_|refine blk_alloc ?_ _));refine blk_far ?_ NB276_289.out _;(with_reducible repeat (first|refine blk_drewN ?_ _|refine blk_drew ?_|refine blk_alloc ?_ _));refine blk_far ?_ NB276_289.out _;(with_reducible repeat (first|refine blk_drewN ?_ _|refine blk_drew ?_|refine blk_alloc ?_ _));refine blk_far ?_ NB276_289.out _;(with_reducible repeat (first|refine blk_drewN ?_ _|refine blk_drew ?_|refine blk_alloc ?_ _));refine blk_far ?_ NB276_289.out _;(with_reducible repeat (first|refine blk_drewN ?_ _|refine blk_drew ?_|refine blk_alloc ?_ _));exact BK276.out) NB276_280.out (by simp));replace HO286:=A0_ (Kd.N_mono (Kd.N_keep (Kd.N_mono (ok:=fun k_=>((((w.heap.size≤k_))∧(k_≠gb275∧(k_≠gb276∧k_≠g280)))∧k_≠gb289)) (Kd.N_mono (Kd.N_far (p:=⟨gb289,3,none⟩) (Kd.N_far (p:=⟨gb289,2,none⟩) (Kd.N_far (p:=⟨gb289,1,none⟩) (Kd.N_far (p:=⟨gb289,0,none⟩) (Kd.N_mono HO286.out (fun k_ hk=>(⟨hk,hk.2⟩:_∧k_≠gb289))) (fun _ hk=>hk.2) (.string t281)) (fun _ hk=>hk.2) (.string t282)) (fun _ hk=>hk.2) (.bool t283)) (fun _ hk=>hk.2) (.slice Ao48 t284.length co48)) (fun _ h_=>h_.1)) (fun k_ hk_=>(⟨hk_,(by first|exact hk_.1.2.2.2|(have hk0_:=hk_;revert hk0_;(try simp only [and_imp]);intros;(repeat' apply And.intro) <;> assumption))⟩:_∧k_≠g280))) hk (fun _ h=>h.2)) (fun _ h=>h.1));replace BK289:=A0_ (KeepBut.blk hk (g':=gb289) (o:= .cells #[.string t281, .string t282, .bool t283, .slice Ao48 t284.length co48] 26 (0,0)) (by (with_reducible repeat (first|refine blk_drewN ?_ _|refine blk_drew ?_|refine blk_alloc ?_ _));refine blk_put (cs:= #[.string t281, .string t282, .bool t283, .slice none 0 0]) ?_ 3 _ rfl;(with_reducible repeat (first|refine blk_drewN ?_ _|refine blk_drew ?_|refine blk_alloc ?_ _));refine blk_put (cs:= #[.string t281, .string t282, .bool false, .slice none 0 0]) ?_ 2 _ rfl;(with_reducible repeat (first|refine blk_drewN ?_ _|refine blk_drew ?_|refine blk_alloc ?_ _));refine blk_put (cs:= #[.string t281, .string (⟨#[]⟩:ByteArray), .bool false, .slice none 0 0]) ?_ 1 _ rfl;(with_reducible repeat (first|refine blk_drewN ?_ _|refine blk_drew ?_|refine blk_alloc ?_ _));refine blk_put (cs:= #[.string (⟨#[]⟩:ByteArray), .string (⟨#[]⟩:ByteArray), .bool false, .slice none 0 0]) ?_ 0 _ rfl;(with_reducible repeat (first|refine blk_drewN ?_ _|refine blk_drew ?_|refine blk_alloc ?_ _));exact BK289.out) NB289_280.out (by simp));replace HB:=A0_ (hb);replace HI280:=A0_ (hi);(try clear hb);(try clear hb2);(try clear hk);(try clear hi);obtain ⟨hcz50_0,hcz50_1,hcz50_2,hcz50_3⟩:=bc4_ BK289.out;obtain ⟨hfz50_0,hfz50_1,hfz50_2,hfz50_3⟩:=bf4_ BK289.out)|((with_reducible refine gate_callee (f:=40) rfl ?_);refine goesL_ (some 19) rfl rfl Try.func40 (by kernel_rfl) rfl #[.pointer (some ⟨g280,0,none⟩), .agg #[.string t281, .string t282, .bool t283, .slice Ao48 t284.length co48]] rfl (by (try simp only [List.map_toArray,List.map_cons,List.map_nil]);first|done|rfl|(simp only [List.length_drop,List.length_take];rfl)) ?_;(with_reducible refine (spec_l01DrawPath.calls k g280 t277 t291 t292 t281 t282 t283 (fun k_=>(((w.heap.size≤k_)∧(k_≠gb275∧(k_≠gb276∧k_≠g280)))∧k_≠gb289)) _ _ t284 t314 t317 t318 w _ ?side1 ?side2 ?side3 A37.out).mono ?_);(case side1=>repeat (first|(with_reducible first|exact HI280.out|apply IsS104.alloc|apply IsS104.drewN|apply IsS104.drew|apply IsS104.set_1|apply IsS104.set_2|refine IsS104.far ?_ NB280_275.out _|refine IsS104.far ?_ NB280_276.out _|refine IsS104.far ?_ NB280_289.out _)|exact HI280.out));(case side2=>repeat (first|(with_reducible first|exact HB.out|apply below_alloc|apply pw_below_drewN|apply below_drew1|refine below_set ?_ (IsS104.ge HI280.out)|refine below_set ?_ GE275.out|refine below_set ?_ GE276.out|refine below_set ?_ GE289.out)|exact HB.out));(case side3=>exact Kd.V_mono (Kd.N_V (HO286.out)) (fun k_ hk_=>⟨hk_,(by first|exact hk_.1.2.2.2|(have hk0_:=hk_;revert hk0_;(try simp only [and_imp]);intros;(repeat' apply And.intro) <;> assumption))⟩));rintro e w51 ⟨v315,rfl,ho0,hi,hb,hk⟩;refine ⟨_,rfl, ?_⟩;replace BK275:=A0_ (KeepBut.blk hk BK275.out NB275_280.out (by simp));replace BK276:=A0_ (KeepBut.blk hk BK276.out NB276_280.out (by simp));replace HO286:=A0_ (Kd.N_mono (Kd.N_told (Kd.N_oldK (Kd.N_mono (ok:=fun k_=>((((w.heap.size≤k_))∧(k_≠gb275∧(k_≠gb276∧k_≠g280)))∧k_≠gb289)) HO286.out (fun k_ hk_=>(⟨hk_,(by first|exact hk_.1.2.2.2|(have hk0_:=hk_;revert hk0_;(try simp only [and_imp]);intros;(repeat' apply And.intro) <;> assumption))⟩:_∧k_≠g280))) hk) (Kd.R_base ho0)) (fun _ h_=>h_.1));replace BK289:=A0_ (KeepBut.blk hk BK289.out NB289_280.out (by simp));have HO316:=A0_ (Kd.R_lower (Kd.R_newM (M:=fun k_=>(w.heap.size≤k_)) (Kd.R_mono (ok':=fun k_=>True) ho0 (fun _ hk_=>trivial)) (below_size HB.out) (fun k_ h_=>h_)) (below_size HB.out));replace HB:=A0_ (hb);replace HI280:=A0_ (hi);(try clear hb);(try clear hb2);(try clear hk);(try clear hi);(try clear ho0)))
  have n0_:=A0_ (Kd.N_drew HO286.out)
  have n1_:=A0_ (Kd.R_drew HO316.out)
  have n2_:=A0_ (blk_drew BK275.out)
  have n3_:=A0_ (blk_drew BK276.out)
  have n4_:=A0_ (blk_drew BK289.out)
  have n5_:=A0_ (IsS104.drew HI280.out)
  have n6_:=A0_ (below_drew1 HB.out)
  clear HO286
  clear HO316
  clear BK275
  clear BK276
  clear BK289
  clear HI280
  clear HB
  have HO286:=n0_
  have HO316:=n1_
  have BK275:=n2_
  have BK276:=n3_
  have BK289:=n4_
  have HI280:=n5_
  have HB:=n6_
  clear n0_ n1_ n2_ n3_ n4_ n5_ n6_
  refine start_ (n:=7) (S:=fun w'=>w'.cell? ⟨gb289,0,none⟩=some (.string t281)∧w'.cell? ⟨gb289,1,none⟩=some (.string t282)∧w'.cell? ⟨gb289,2,none⟩=some (.bool t283)∧w'.cell? ⟨gb289,3,none⟩=some (.slice Ao48 t284.length co48)) (ds:= []) #[false,false,false,false,false,false,false] (by kernel_rfl) rfl rfl ⟨(blk_cell BK289.out 0).trans rfl,(blk_cell BK289.out 1).trans rfl,(blk_cell BK289.out 2).trans rfl,(blk_cell BK289.out 3).trans rfl⟩ (fun hHeld=> ?_)
  generalize w51.drew=w52 at HO286 HO316 BK275 BK276 BK289 HI280 HB hHeld ⊢
  refine pure_ (i:=1) (N:=some 21) (v:= ?_) (a':= ?_) #[false,true,false,false,false,false,false] rfl rfl (by kernel_rfl) (fun _ _ _ h=>h) (Or.inl ⟨by rfl, ?_⟩) ?_ ?_
  rotate_left
  ·intro w'
   go_simp
   with_reducible rfl
  rotate_left
  ·simp only [Act.put,List.setIfInBounds_toArray,List.set_cons_zero,List.set_cons_succ,i64_w,i32_w]
   rfl
  refine pure_ (i:=2) (N:=some 22) (v:= ?_) (a':= ?_) #[false,true,true,false,false,false,false] rfl rfl (by kernel_rfl) (fun _ _ _ h=>h) (Or.inl ⟨by rfl, ?_⟩) ?_ ?_
  rotate_left
  ·intro w'
   go_simp
   with_reducible rfl
  rotate_left
  ·simp only [Act.put,List.setIfInBounds_toArray,List.set_cons_zero,List.set_cons_succ,i64_w,i32_w]
   rfl
  refine take_ (i:=0) (N:=some 20) (v:= ?_) (a':= ?_) #[true,true,true,false,false,false,false] rfl rfl (by kernel_rfl) (fun _ _ _ h=>h) (Or.inl ⟨by rfl, ?_⟩) hHeld ?_ ?_
  rotate_left
  ·rintro w' ⟨s0,s1,s2,s3⟩
   go_simp
   with_reducible rfl
  rotate_left
  ·simp only [Act.put,List.setIfInBounds_toArray,List.set_cons_zero,List.set_cons_succ,i64_w,i32_w]
   rfl
  refine one_ (i:=3) (N:=some 23) #[true,true,true,true,false,false,false] rfl rfl (by kernel_rfl) (by decide) (fun K hK=> ?_)
  refine goes_ Try.func39 (by kernel_rfl) rfl #[.pointer (some ⟨g280,0,none⟩)] (by rfl) rfl rfl (by (try simp only [List.map_toArray,List.map_cons,List.map_nil]);first|done|rfl|(simp only [List.length_drop,List.length_take];rfl)) ?_
  with_reducible refine (spec_l01DrawAny.calls k g280 t277 t317 t318 t319 t320 t321 t322 t325 t326 w _ ?side1 ?side2 A38.out).mono ?_
  (case side1=>repeat (first|(with_reducible first|exact HI280.out|apply IsS104.alloc|apply IsS104.drewN|apply IsS104.drew|apply IsS104.set_1|apply IsS104.set_2|refine IsS104.far ?_ NB280_275.out _|refine IsS104.far ?_ NB280_276.out _|refine IsS104.far ?_ NB280_289.out _)|exact HI280.out))
  (case side2=>repeat (first|(with_reducible first|exact HB.out|apply below_alloc|apply pw_below_drewN|apply below_drew1|refine below_set ?_ (IsS104.ge HI280.out)|refine below_set ?_ GE275.out|refine below_set ?_ GE276.out|refine below_set ?_ GE289.out)|exact HB.out))
  rintro e w53 ⟨v323,rfl,ho0,hi,hb,hk⟩
  refine ⟨_,rfl, ?_⟩
  have n0_:=A0_ (KeepBut.blk hk BK275.out NB275_280.out (by simp))
  have n1_:=A0_ (KeepBut.blk hk BK276.out NB276_280.out (by simp))
  have n2_:=A0_ (Kd.N_mono (Kd.N_told (Kd.N_oldK (Kd.N_mono (ok:=fun k_=>(((((w.heap.size≤k_))∧(k_≠gb275∧(k_≠gb276∧k_≠g280)))∧k_≠gb289)∧some k_≠(v315:Value).ownBlock)) HO286.out (fun k_ hk_=>(⟨hk_,(by first|exact hk_.1.1.2.2.2|(have hk0_:=hk_;revert hk0_;(try simp only [and_imp]);intros;(repeat' apply And.intro) <;> assumption))⟩:_∧k_≠g280))) hk) (Kd.N_base ho0)) (fun _ h_=>h_.1))
  have n3_:=A0_ (KeepBut.blk hk BK289.out NB289_280.out (by simp))
  have n4_:=A0_ (Kd.R_mono (Kd.R_keep (IsS104.apart (show IsS104 w _ g280 t277 t317 t318 from by repeat (first|(with_reducible first|exact HI280.out|apply IsS104.alloc|apply IsS104.drewN|apply IsS104.drew|apply IsS104.set_1|apply IsS104.set_2|refine IsS104.far ?_ NB280_275.out _|refine IsS104.far ?_ NB280_276.out _|refine IsS104.far ?_ NB280_289.out _)|exact HI280.out)) HO316.out (by decide)) hk (fun _ h=>h.2)) (fun _ h=>h.1))
  have n5_:=A0_ (Kd.N_lower (Kd.N_mono (ok':=fun k_=>(w.heap.size≤k_)∧some k_≠(.slice Ao48 t284.length co48:Value).ownBlock∧some k_≠(v315:Value).ownBlock∧k_≠gb275∧k_≠gb276∧k_≠gb289∧k_≠g280) ho0 (fun k_ hk_=>⟨(Nat.le_trans (below_size HB.out) hk_),(Kd.fresh' (Kd.N_lt HO286.out) k_ hk_),(Kd.fresh' (Kd.R_lt HO316.out) k_ hk_),(Kd.freshB BK275.out k_ hk_),(Kd.freshB BK276.out k_ hk_),(Kd.freshB BK289.out k_ hk_),(IsS104.fresh HI280.out k_ hk_)⟩)) (below_size HB.out))
  have n6_:=A0_ (hb)
  have n7_:=A0_ (hi)
  clear BK275
  clear BK276
  clear HO286
  clear BK289
  clear HO316
  clear HB
  clear HI280
  have BK275:=n0_
  have BK276:=n1_
  have HO286:=n2_
  have BK289:=n3_
  have HO316:=n4_
  have HO324:=n5_
  have HB:=n6_
  have HI280:=n7_
  clear n0_ n1_ n2_ n3_ n4_ n5_ n6_ n7_
  (try clear hb)
  (try clear hb2)
  (try clear hk)
  (try clear hi)
  (try clear ho0)
  obtain ⟨Ao61,co61,eo61⟩:=Kd.N_slice HO324.out
  (first|subst eo61|(injection eo61 with f1_ f2_ f3_;have f4_:=f1_.symm;have f5_:=f3_.symm;clear f1_ f2_ f3_;subst f4_;subst f5_))
  refine hK.out _ _ ⟨(blk_cell BK289.out 0).trans rfl,(blk_cell BK289.out 1).trans rfl,(blk_cell BK289.out 2).trans rfl,(blk_cell BK289.out 3).trans rfl⟩ (fun hHeld=> ?_)
  clear hK K
  refine norm_ (a':= ?_) ?_ ?_
  rotate_left
  ·show Act.put _ (some 23) _=_
   simp only [Act.put,List.setIfInBounds_toArray,List.set_cons_zero,List.set_cons_succ,i64_w,i32_w]
   rfl
  refine one_ (i:=4) (N:=none) #[true,true,true,true,true,false,false] rfl rfl (by kernel_rfl) (by decide) (fun K hK=> ?_)
  have hs54:w53.cell? ⟨gb275,0,none⟩=some (.string (⟨#[]⟩:ByteArray)):=(blk_cell BK275.out 0).trans rfl
  have hfs54:=blk_frozen BK275.out 0
  have hns54_1:=NB276_275.out
  have hns54_2:=NB289_275.out
  have hms54_1:=NB275_276.out
  have hms54_2:=NB275_289.out
  have hs55:w53.cell? ⟨gb275,1,none⟩=some (.string (⟨#[]⟩:ByteArray)):=(blk_cell BK275.out 1).trans rfl
  have hfs55:=blk_frozen BK275.out 1
  have hns55_1:=NB276_275.out
  have hns55_2:=NB289_275.out
  have hms55_1:=NB275_276.out
  have hms55_2:=NB275_289.out
  have hs56:w53.cell? ⟨gb275,2,none⟩=some (.bool false):=(blk_cell BK275.out 2).trans rfl
  have hfs56:=blk_frozen BK275.out 2
  have hns56_1:=NB276_275.out
  have hns56_2:=NB289_275.out
  have hms56_1:=NB275_276.out
  have hms56_2:=NB275_289.out
  have hs57:w53.cell? ⟨gb275,3,none⟩=some (.slice none 0 0):=(blk_cell BK275.out 3).trans rfl
  have hfs57:=blk_frozen BK275.out 3
  have hns57_1:=NB276_275.out
  have hns57_2:=NB289_275.out
  have hms57_1:=NB275_276.out
  have hms57_2:=NB275_289.out
  refine skip_ (w1:= ?_) (by rfl) rfl ?_ ?_
  rotate_left
  ·go_simp
   rfl
  refine hK.out _ _ ⟨((cell_far (p:=⟨gb275,_,none⟩) NB289_275.out _).trans (((cell_far (p:=⟨gb275,_,none⟩) NB289_275.out _).trans (((cell_far (p:=⟨gb275,_,none⟩) NB289_275.out _).trans (((cell_far (p:=⟨gb275,_,none⟩) NB289_275.out _).trans (hHeld.1)))))))),((cell_far (p:=⟨gb275,_,none⟩) NB289_275.out _).trans (((cell_far (p:=⟨gb275,_,none⟩) NB289_275.out _).trans (((cell_far (p:=⟨gb275,_,none⟩) NB289_275.out _).trans (((cell_far (p:=⟨gb275,_,none⟩) NB289_275.out _).trans (hHeld.2.1)))))))),((cell_far (p:=⟨gb275,_,none⟩) NB289_275.out _).trans (((cell_far (p:=⟨gb275,_,none⟩) NB289_275.out _).trans (((cell_far (p:=⟨gb275,_,none⟩) NB289_275.out _).trans (((cell_far (p:=⟨gb275,_,none⟩) NB289_275.out _).trans (hHeld.2.2.1)))))))),((cell_far (p:=⟨gb275,_,none⟩) NB289_275.out _).trans (((cell_far (p:=⟨gb275,_,none⟩) NB289_275.out _).trans (((cell_far (p:=⟨gb275,_,none⟩) NB289_275.out _).trans (((cell_far (p:=⟨gb275,_,none⟩) NB289_275.out _).trans (hHeld.2.2.2))))))))⟩ (fun hHeld=> ?_)
  clear hK K
  refine pure_ (i:=5) (N:=some 3) (v:= ?_) (a':= ?_) #[true,true,true,true,true,true,false] rfl rfl (by kernel_rfl) (fun _ _ _ h=>h) (Or.inl ⟨by rfl, ?_⟩) ?_ ?_
  rotate_left
  ·intro w'
   go_simp
   with_reducible rfl
  rotate_left
  ·simp only [Act.put,List.setIfInBounds_toArray,List.set_cons_zero,List.set_cons_succ,i64_w,i32_w]
   rfl
  refine one_ (i:=6) (N:=none) #[true,true,true,true,true,true,true] rfl rfl (by kernel_rfl) (by decide) (fun K hK=> ?_)
  have hs58:w53.cell? ⟨gb276,0,none⟩=some (.string (⟨#[]⟩:ByteArray)):=(blk_cell BK276.out 0).trans rfl
  have hfs58:=blk_frozen BK276.out 0
  have hns58_0:=NB275_276.out
  have hns58_2:=NB289_276.out
  have hms58_0:=NB276_275.out
  have hms58_2:=NB276_289.out
  have hs59:w53.cell? ⟨gb276,1,none⟩=some (.string (⟨#[]⟩:ByteArray)):=(blk_cell BK276.out 1).trans rfl
  have hfs59:=blk_frozen BK276.out 1
  have hns59_0:=NB275_276.out
  have hns59_2:=NB289_276.out
  have hms59_0:=NB276_275.out
  have hms59_2:=NB276_289.out
  have hs60:w53.cell? ⟨gb276,2,none⟩=some (.bool false):=(blk_cell BK276.out 2).trans rfl
  have hfs60:=blk_frozen BK276.out 2
  have hns60_0:=NB275_276.out
  have hns60_2:=NB289_276.out
  have hms60_0:=NB276_275.out
  have hms60_2:=NB276_289.out
  have hs62:w53.cell? ⟨gb276,3,none⟩=some (.slice none 0 0):=(blk_cell BK276.out 3).trans rfl
  have hfs62:=blk_frozen BK276.out 3
  have hns62_0:=NB275_276.out
  have hns62_2:=NB289_276.out
  have hms62_0:=NB276_275.out
  have hms62_2:=NB276_289.out
  refine skip_ (w1:= ?_) (by rfl) rfl ?_ ?_
  rotate_left
  ·go_simp
   rfl
  refine hK.out _ _ ⟨((cell_far (p:=⟨gb276,_,none⟩) NB289_276.out _).trans (((cell_far (p:=⟨gb276,_,none⟩) NB289_276.out _).trans (((cell_far (p:=⟨gb276,_,none⟩) NB289_276.out _).trans (((cell_far (p:=⟨gb276,_,none⟩) NB289_276.out _).trans (hHeld.1)))))))),((cell_far (p:=⟨gb276,_,none⟩) NB289_276.out _).trans (((cell_far (p:=⟨gb276,_,none⟩) NB289_276.out _).trans (((cell_far (p:=⟨gb276,_,none⟩) NB289_276.out _).trans (((cell_far (p:=⟨gb276,_,none⟩) NB289_276.out _).trans (hHeld.2.1)))))))),((cell_far (p:=⟨gb276,_,none⟩) NB289_276.out _).trans (((cell_far (p:=⟨gb276,_,none⟩) NB289_276.out _).trans (((cell_far (p:=⟨gb276,_,none⟩) NB289_276.out _).trans (((cell_far (p:=⟨gb276,_,none⟩) NB289_276.out _).trans (hHeld.2.2.1)))))))),((cell_far (p:=⟨gb276,_,none⟩) NB289_276.out _).trans (((cell_far (p:=⟨gb276,_,none⟩) NB289_276.out _).trans (((cell_far (p:=⟨gb276,_,none⟩) NB289_276.out _).trans (((cell_far (p:=⟨gb276,_,none⟩) NB289_276.out _).trans (hHeld.2.2.2))))))))⟩ (fun hHeld=> ?_)
  clear hK K
  refine done_ (by kernel_rfl) ?_
  try go_wp2
  refine bodyPost_ret (results_list (rs:= [.cell 2 26, .tmp 3, .cell 4 26]) rfl (by simp) (.cell gb275 26 #[.string t281, .string t282, .bool t283, .slice Ao48 t284.length co48] (0,0) _ rfl (by (with_reducible repeat (first|refine blk_drewN ?_ _|refine blk_drew ?_|refine blk_alloc ?_ _));refine blk_far ?_ NB275_276.out _;(with_reducible repeat (first|refine blk_drewN ?_ _|refine blk_drew ?_|refine blk_alloc ?_ _));refine blk_far ?_ NB275_276.out _;(with_reducible repeat (first|refine blk_drewN ?_ _|refine blk_drew ?_|refine blk_alloc ?_ _));refine blk_far ?_ NB275_276.out _;(with_reducible repeat (first|refine blk_drewN ?_ _|refine blk_drew ?_|refine blk_alloc ?_ _));refine blk_far ?_ NB275_276.out _;(with_reducible repeat (first|refine blk_drewN ?_ _|refine blk_drew ?_|refine blk_alloc ?_ _));refine blk_put (cs:= #[.string t281, .string t282, .bool t283, .slice none 0 0]) ?_ 3 _ rfl;(with_reducible repeat (first|refine blk_drewN ?_ _|refine blk_drew ?_|refine blk_alloc ?_ _));refine blk_put (cs:= #[.string t281, .string t282, .bool false, .slice none 0 0]) ?_ 2 _ rfl;(with_reducible repeat (first|refine blk_drewN ?_ _|refine blk_drew ?_|refine blk_alloc ?_ _));refine blk_put (cs:= #[.string t281, .string (⟨#[]⟩:ByteArray), .bool false, .slice none 0 0]) ?_ 1 _ rfl;(with_reducible repeat (first|refine blk_drewN ?_ _|refine blk_drew ?_|refine blk_alloc ?_ _));refine blk_put (cs:= #[.string (⟨#[]⟩:ByteArray), .string (⟨#[]⟩:ByteArray), .bool false, .slice none 0 0]) ?_ 0 _ rfl;(with_reducible repeat (first|refine blk_drewN ?_ _|refine blk_drew ?_|refine blk_alloc ?_ _));exact BK275.out) Try.underlying26 rfl (by kernel_rfl) (.tmp (.cell gb276 26 #[.string t319, .string t320, .bool t321, .slice Ao61 t322.length co61] (0,0) _ rfl (by (with_reducible repeat (first|refine blk_drewN ?_ _|refine blk_drew ?_|refine blk_alloc ?_ _));refine blk_put (cs:= #[.string t319, .string t320, .bool t321, .slice none 0 0]) ?_ 3 _ rfl;(with_reducible repeat (first|refine blk_drewN ?_ _|refine blk_drew ?_|refine blk_alloc ?_ _));refine blk_put (cs:= #[.string t319, .string t320, .bool false, .slice none 0 0]) ?_ 2 _ rfl;(with_reducible repeat (first|refine blk_drewN ?_ _|refine blk_drew ?_|refine blk_alloc ?_ _));refine blk_put (cs:= #[.string t319, .string (⟨#[]⟩:ByteArray), .bool false, .slice none 0 0]) ?_ 1 _ rfl;(with_reducible repeat (first|refine blk_drewN ?_ _|refine blk_drew ?_|refine blk_alloc ?_ _));refine blk_put (cs:= #[.string (⟨#[]⟩:ByteArray), .string (⟨#[]⟩:ByteArray), .bool false, .slice none 0 0]) ?_ 0 _ rfl;(with_reducible repeat (first|refine blk_drewN ?_ _|refine blk_drew ?_|refine blk_alloc ?_ _));refine blk_far ?_ NB276_275.out _;(with_reducible repeat (first|refine blk_drewN ?_ _|refine blk_drew ?_|refine blk_alloc ?_ _));refine blk_far ?_ NB276_275.out _;(with_reducible repeat (first|refine blk_drewN ?_ _|refine blk_drew ?_|refine blk_alloc ?_ _));refine blk_far ?_ NB276_275.out _;(with_reducible repeat (first|refine blk_drewN ?_ _|refine blk_drew ?_|refine blk_alloc ?_ _));refine blk_far ?_ NB276_275.out _;(with_reducible repeat (first|refine blk_drewN ?_ _|refine blk_drew ?_|refine blk_alloc ?_ _));exact BK276.out) Try.underlying26 rfl (by kernel_rfl) .nil)))) rfl ?_
  exact ⟨_,_,_,by first|rfl|(simp [errW_none,errW_some] <;> rfl)|(simp [*,errW_none,errW_some] <;> rfl),by (with_reducible repeat (first|apply Kd.N_alloc|apply Kd.N_drewN|apply Kd.N_drew));exact Kd.N_mono (Kd.N_far (p:=⟨gb276,3,none⟩) (Kd.N_far (p:=⟨gb276,2,none⟩) (Kd.N_far (p:=⟨gb276,1,none⟩) (Kd.N_far (p:=⟨gb276,0,none⟩) (Kd.N_far (p:=⟨gb275,3,none⟩) (Kd.N_far (p:=⟨gb275,2,none⟩) (Kd.N_far (p:=⟨gb275,1,none⟩) (Kd.N_far (p:=⟨gb275,0,none⟩) (Kd.N_mono (Kd.N_mono HO286.out (fun k_ hk=>(⟨hk,hk.1.1.1.2.1⟩:_∧k_≠gb275))) (fun k_ hk=>(⟨hk,hk.1.1.1.1.2.2.1⟩:_∧k_≠gb276))) (fun _ hk=>hk.1.2) (.string t281)) (fun _ hk=>hk.1.2) (.string t282)) (fun _ hk=>hk.1.2) (.bool t283)) (fun _ hk=>hk.1.2) (.slice Ao48 t284.length co48)) (fun _ hk=>hk.2) (.string t319)) (fun _ hk=>hk.2) (.string t320)) (fun _ hk=>hk.2) (.bool t321)) (fun _ hk=>hk.2) (.slice Ao61 t322.length co61)) (fun _ hk=>⟨hk.1.1.1.1.1.1,⟨hk.1.1.1.2,hk.1.1.2⟩⟩),by (with_reducible repeat (first|apply Kd.R_alloc|apply Kd.R_drewN|apply Kd.R_drew));exact Kd.R_mono (Kd.R_far (p:=⟨gb276,3,none⟩) (Kd.R_far (p:=⟨gb276,2,none⟩) (Kd.R_far (p:=⟨gb276,1,none⟩) (Kd.R_far (p:=⟨gb276,0,none⟩) (Kd.R_far (p:=⟨gb275,3,none⟩) (Kd.R_far (p:=⟨gb275,2,none⟩) (Kd.R_far (p:=⟨gb275,1,none⟩) (Kd.R_far (p:=⟨gb275,0,none⟩) (Kd.R_types (Kd.R_types HO316.out BK275.out (by decide)) BK276.out (by decide)) (fun _ hk=>hk.1.2) (.string t281)) (fun _ hk=>hk.1.2) (.string t282)) (fun _ hk=>hk.1.2) (.bool t283)) (fun _ hk=>hk.1.2) (.slice Ao48 t284.length co48)) (fun _ hk=>hk.2) (.string t319)) (fun _ hk=>hk.2) (.string t320)) (fun _ hk=>hk.2) (.bool t321)) (fun _ hk=>hk.2) (.slice Ao61 t322.length co61)) (fun _ hk=>hk.1.1.1),by (with_reducible repeat (first|apply Kd.N_alloc|apply Kd.N_drewN|apply Kd.N_drew));exact Kd.N_mono (Kd.N_far (p:=⟨gb276,3,none⟩) (Kd.N_far (p:=⟨gb276,2,none⟩) (Kd.N_far (p:=⟨gb276,1,none⟩) (Kd.N_far (p:=⟨gb276,0,none⟩) (Kd.N_far (p:=⟨gb275,3,none⟩) (Kd.N_far (p:=⟨gb275,2,none⟩) (Kd.N_far (p:=⟨gb275,1,none⟩) (Kd.N_far (p:=⟨gb275,0,none⟩) (Kd.N_mono (Kd.N_mono HO324.out (fun k_ hk=>(⟨hk,hk.2.2.2.1⟩:_∧k_≠gb275))) (fun k_ hk=>(⟨hk,hk.1.2.2.2.2.1⟩:_∧k_≠gb276))) (fun _ hk=>hk.1.2) (.string t281)) (fun _ hk=>hk.1.2) (.string t282)) (fun _ hk=>hk.1.2) (.bool t283)) (fun _ hk=>hk.1.2) (.slice Ao48 t284.length co48)) (fun _ hk=>hk.2) (.string t319)) (fun _ hk=>hk.2) (.string t320)) (fun _ hk=>hk.2) (.bool t321)) (fun _ hk=>hk.2) (.slice Ao61 t322.length co61)) (fun _ hk=>⟨hk.1.1.1,⟨hk.1.1.2.1,hk.1.1.2.2.1⟩⟩),by repeat (first|(with_reducible first|exact HB.out|apply below_alloc|apply pw_below_drewN|apply below_drew1|refine below_set ?_ (IsS104.ge HI280.out)|refine below_set ?_ GE275.out|refine below_set ?_ GE276.out|refine below_set ?_ GE289.out)|exact HB.out)⟩
end Go.Proofs.Ytakpkmkjhndpjaa.Q
end
section
namespace Go.Proofs.Ytakpkmkjhndpjaa.Q
open Go.RowKit Go.Proofs.YtakpkmkjhndpjaaW.PrintWords Go.Proofs.YtakpkmkjhndpjaaW.PrintLast Go.Proofs.YtakpkmkjhndpjaaW.PrintMore
attribute [local go_sem] max2_int min2_int max_two min_two max_three min_three max_four min_four
set_option linter.unusedVariables false
set_option linter.unusedSimpArgs false
mutual
def spec_l01Room.l0:Nat→Int→Int→Int→ByteArray→ByteArray→Bool→List (S26)→Option (Int)
 |0,_,_,_,_,_,_,_=>none
 |k + 1,x1,x2,x7,x328000,x328001,x328002,x328003=>if x7 < (x328003.length:Int) then (if x1 ≥ 0 then (if 0≤x7 then ((spec_l01Room.f k ((rd_T26 x328003 x7).f0) ((rd_T26 x328003 x7).f1) ((rd_T26 x328003 x7).f2) ((rd_T26 x328003 x7).f3) x1 (wrap64 (x2 - 1))).bind fun t329=>(spec_l01Room.l0 k t329 x2 (wrap64 (x7 + 1)) x328000 x328001 x328002 x328003)) else (none)) else (some x1)) else (some x1)
def spec_l01Room.f:Nat→ByteArray→ByteArray→Bool→List (S26)→Int→Int→Option (Int)
 |0,_,_,_,_,_,_=>none
 |k + 1,a0_0,a0_1,a0_2,l0_3,a1,a2=>if a2 < 1 then (some (-1)) else (spec_l01Room.l0 k (wrap64 (a1 - 1)) a2 0 a0_0 a0_1 a0_2 l0_3)
end
set_option maxHeartbeats 8000000 in
set_option maxRecDepth 100000 in
theorem spec_l01Room.calls (k:Nat): ∀ (a0_0:ByteArray) (a0_1:ByteArray) (a0_2:Bool) (A0_3:Option Addr) (c0_3:Nat) (l0_3:List (S26)) (a1:Int) (a2:Int) (r:Int) (w:World) (hr0_3:Kd.C k26 w A0_3 l0_3.length l0_3) (hc0_3:l0_3.length≤c0_3) (h:spec_l01Room.f k a0_0 a0_1 a0_2 l0_3 a1 a2=some r),
  Calls Try.prog 85 #[.agg #[.string a0_0, .string a0_1, .bool a0_2, .slice A0_3 l0_3.length c0_3], .int .i64 a1, .int .i64 a2] w fun e w'=>e= .returned (.int .i64 r)∧Below w.heap.size w w':=by
 induction k using Nat.strongRecOn with
 |_ k ih=>
 intro a0_0 a0_1 a0_2 A0_3 c0_3 l0_3 a1 a2 r w hr0_3 hc0_3 h
 cases k with
 |zero=>exact absurd h (by simp [spec_l01Room.f])
 |succ k=>
 simp only [spec_l01Room.f] at h
 have hu26:=Try.underlying26
 have HR0_3:=A0_ hr0_3
 have HC0_3:=A0_ hc0_3
 clear hr0_3 hc0_3
 have HB:=A0_ (Below.refl w.heap.size w)
 have H:(if a2 < 1 then (some (-1)) else (spec_l01Room.l0 k (wrap64 (a1 - 1)) a2 0 a0_0 a0_1 a0_2 l0_3))=some r:=h
 clear h
 by_cases c4:a2 < 1
 ·rw [if_pos c4] at H
  have c4b0:decide (a2 < 1)=true:=decide_eq_true c4
  clear c4
  obtain rfl:=Option.some.inj H
  go_enter Try.func85,Try.ntmps85
  go_wp2_with (first|((with_reducible refine gate_dst (N:=3) rfl ?_);refine box_event ?hg (N:=3) ?hd (cs:= #[.string a0_0, .string a0_1, .bool a0_2, .slice A0_3 l0_3.length c0_3]) (t:=26) ?hr ?_;(case hd=>rfl);(case hg=>rfl);(case hr=>first|(go_simp;done)|(go_simp;rfl));intro gb327 hg w5 hbox hb;have BK327:=A0_ (hbox);have GW327:=A0_ ((by rw [hg];exact (below_size HB.out):w.heap.size≤gb327));have GE327:=A0_ ((by rw [hg];exact (below_size HB.out):w.heap.size≤gb327));replace HB:=A0_ (below_step HB.out hb);clear hb hbox hg))
  go_ret
  exact ⟨by first|rfl|(simp [errW_none,errW_some] <;> rfl)|(simp [*,errW_none,errW_some] <;> rfl),by repeat (first|(with_reducible first|exact HB.out|apply below_alloc|apply pw_below_drewN|apply below_drew1|refine below_set ?_ GE327.out)|exact HB.out)⟩
 ·rw [if_neg c4] at H
  have c4b0:decide (a2 < 1)=false:=decide_eq_false c4
  clear c4
  have H':=A0_ H
  clear H
  go_enter Try.func85,Try.ntmps85
  go_wp2_with (first|((with_reducible refine gate_dst (N:=3) rfl ?_);refine box_event ?hg (N:=3) ?hd (cs:= #[.string a0_0, .string a0_1, .bool a0_2, .slice A0_3 l0_3.length c0_3]) (t:=26) ?hr ?_;(case hd=>rfl);(case hg=>rfl);(case hr=>first|(go_simp;done)|(go_simp;rfl));intro gb327 hg w6 hbox hb;have BK327:=A0_ (hbox);have GW327:=A0_ ((by rw [hg];exact (below_size HB.out):w.heap.size≤gb327));have GE327:=A0_ ((by rw [hg];exact (below_size HB.out):w.heap.size≤gb327));replace HB:=A0_ (below_step HB.out hb);clear hb hbox hg))
  go_loopg [1,7] k (fun kq v1 v7 w'=> ∃ (x1_1:Int) (x7_1:Int),v1= .int .i64 x1_1∧v7= .int .i64 x7_1∧Aside0 (spec_l01Room.l0 kq x1_1 a2 x7_1 a0_0 a0_1 a0_2 l0_3=some r)∧Aside0 (kq≤k)∧Aside0 (w'.heap[gb327]?= some (.cells #[.string a0_0, .string a0_1, .bool a0_2,(.slice A0_3 l0_3.length c0_3)] 26 (0,0)))∧Aside0 (Below w.heap.size w w'))
  case atStart=>exact ⟨(wrap64 (a1 - 1)),(0),(by first|rfl|(simp;done)|(simp [*];done)|(simp [bne];done)|(simp [bne, *];done)),(by first|rfl|(simp;done)|(simp [*];done)|(simp [bne];done)|(simp [bne, *];done)),H',⟨Nat.le_refl _⟩,⟨by (with_reducible repeat (first|refine blk_drewN ?_ _|refine blk_drew ?_|refine blk_alloc ?_ _));exact BK327.out⟩,⟨by repeat (first|(with_reducible first|exact HB.out|apply below_alloc|apply pw_below_drewN|apply below_drew1|refine below_set ?_ GE327.out)|exact HB.out)⟩⟩
  case round=>
   clear H'
   try clear p2
   try clear c4
   try clear c4b0
   try clear p6
   obtain ⟨x1_1,x7_1,rfl,rfl,HA,HK1,BK327,HB⟩:=hrel
   cases gk with
   |zero=>exact absurd HA.out (by simp [spec_l01Room.l0])
   |succ k1=>
    have H:=HA.out
    clear HA
    simp only [spec_l01Room.l0] at H
    by_cases c7:x7_1 < (l0_3.length:Int)
    ·rw [if_pos c7] at H
     have c7b0:decide (x7_1 < (l0_3.length:Int))=true:=decide_eq_true c7
     clear c7
     by_cases c8:x1_1 ≥ 0
     ·rw [if_pos c8] at H
      have c8b0:decide (0≤x1_1)=true:=decide_eq_true c8
      clear c8
      by_cases c9:0≤x7_1
      ·rw [if_pos c9] at H
       have c9b0:decide (0≤x7_1)=true:=decide_eq_true c9
       clear c9
       replace H:=Option.bind_eq_some_iff.mp H
       obtain ⟨t329,A100,H⟩:=H
       replace H:(spec_l01Room.l0 k1 t329 a2 (wrap64 (x7_1 + 1)) a0_0 a0_1 a0_2 l0_3)=some r:=H
       have A10:=A0_ A100
       clear A100
       have H':=A0_ H
       clear H
       obtain ⟨hcz11_0,hcz11_1,hcz11_2,hcz11_3⟩:=bc4_ BK327.out
       obtain ⟨hfz11_0,hfz11_1,hfz11_2,hfz11_3⟩:=bf4_ BK327.out
       have p328:0≤(x7_1:Int):=of_decide_eq_true (by first|(with_reducible assumption)|assumption)
       have q328:x7_1 < (l0_3.length:Int):=of_decide_eq_true (by first|(with_reducible assumption)|assumption)
       obtain ⟨ad328,A328_3,c328_3,e328,hx328_0,hx328_1,hx328_2,hx328_3,hl328_3,hi328_3⟩:=at_T26 HR0_3.out x7_1 p328 q328
       have hk328_3:=hx328_3
       cases e328
       replace hx328_0:=(HB.out.cell (World.block_lt_of_cell? w _ hx328_0)).trans hx328_0
       replace hx328_1:=(HB.out.cell (World.block_lt_of_cell? w _ hx328_1)).trans hx328_1
       replace hx328_2:=(HB.out.cell (World.block_lt_of_cell? w _ hx328_2)).trans hx328_2
       replace hx328_3:=(HB.out.cell (World.block_lt_of_cell? w _ hx328_3)).trans hx328_3
       have HR328_3:=A0_ hi328_3
       have HC328_3:=A0_ hl328_3
       clear hi328_3 hl328_3
       replace p328:=eq_true p328
       replace q328:=eq_true q328
       go_wp2_with (first|((with_reducible refine gate_callee (f:=85) rfl ?_);refine goesL_ (some 31) rfl rfl Try.func85 (by kernel_rfl) rfl #[.agg #[.string ((rd_T26 l0_3 x7_1).f0), .string ((rd_T26 l0_3 x7_1).f1), .bool ((rd_T26 l0_3 x7_1).f2), .slice A328_3 ((rd_T26 l0_3 x7_1).f3).length c328_3], .int .i64 x1_1, .int .i64 (wrap64 (a2 - 1))] rfl (by (try simp only [List.map_toArray,List.map_cons,List.map_nil]);first|done|rfl|(simp only [List.length_drop,List.length_take];rfl)) ?_;(with_reducible refine (ih k1 (by have:=HK1.out;omega) ((rd_T26 l0_3 x7_1).f0) ((rd_T26 l0_3 x7_1).f1) ((rd_T26 l0_3 x7_1).f2) _ _ ((rd_T26 l0_3 x7_1).f3) x1_1 (wrap64 (a2 - 1)) t329 _ ?side1 ?side2 A10.out).mono ?_);(case side1=>repeat (first|exact (Kd.C_below HR328_3.out HB.out)|(with_reducible refine Kd.C_alloc ?_ _)|(with_reducible refine Kd.C_drewN ?_ _)|(with_reducible refine Kd.C_drew ?_)));(case side2=>exact HC328_3.out);rintro e w12 ⟨rfl,hb⟩;refine ⟨_,rfl, ?_⟩;replace BK327:=A0_ (blk_below BK327.out hb);replace HB:=A0_ (below_step HB.out hb);(try clear hb);(try clear hb2);(try clear hk);(try clear hi)))
       go_roundg k1
       case measure=>have:=HK1.out;omega
       case rel=>exact ⟨(t329),(wrap64 (x7_1 + 1)),(by first|rfl|(simp;done)|(simp [*];done)|(simp [bne];done)|(simp [bne, *];done)),(by first|rfl|(simp;done)|(simp [*];done)|(simp [bne];done)|(simp [bne, *];done)),H',⟨by have:=HK1.out;omega⟩,⟨by (with_reducible repeat (first|refine blk_drewN ?_ _|refine blk_drew ?_|refine blk_alloc ?_ _));exact BK327.out⟩,⟨by repeat (first|(with_reducible first|exact HB.out|apply below_alloc|apply pw_below_drewN|apply below_drew1|refine below_set ?_ GE327.out)|exact HB.out)⟩⟩
      ·rw [if_neg c9] at H
       exact absurd H (by simp)
     ·rw [if_neg c8] at H
      have c8b0:decide (0≤x1_1)=false:=decide_eq_false c8
      clear c8
      obtain rfl:=Option.some.inj H
      obtain ⟨hcz13_0,hcz13_1,hcz13_2,hcz13_3⟩:=bc4_ BK327.out
      obtain ⟨hfz13_0,hfz13_1,hfz13_2,hfz13_3⟩:=bf4_ BK327.out
      go_wp2
      go_ret
      exact ⟨by first|rfl|(simp [errW_none,errW_some] <;> rfl)|(simp [*,errW_none,errW_some] <;> rfl),by repeat (first|(with_reducible first|exact HB.out|apply below_alloc|apply pw_below_drewN|apply below_drew1|refine below_set ?_ GE327.out)|exact HB.out)⟩
    ·rw [if_neg c7] at H
     have c7b0:decide (x7_1 < (l0_3.length:Int))=false:=decide_eq_false c7
     clear c7
     obtain rfl:=Option.some.inj H
     obtain ⟨hcz14_0,hcz14_1,hcz14_2,hcz14_3⟩:=bc4_ BK327.out
     obtain ⟨hfz14_0,hfz14_1,hfz14_2,hfz14_3⟩:=bf4_ BK327.out
     go_wp2
     go_ret
     exact ⟨by first|rfl|(simp [errW_none,errW_some] <;> rfl)|(simp [*,errW_none,errW_some] <;> rfl),by repeat (first|(with_reducible first|exact HB.out|apply below_alloc|apply pw_below_drewN|apply below_drew1|refine below_set ?_ GE327.out)|exact HB.out)⟩
end Go.Proofs.Ytakpkmkjhndpjaa.Q
end
section
namespace Go.Proofs.Ytakpkmkjhndpjaa.Q
open Go.RowKit Go.Proofs.YtakpkmkjhndpjaaW.PrintWords Go.Proofs.YtakpkmkjhndpjaaW.PrintLast Go.Proofs.YtakpkmkjhndpjaaW.PrintMore
attribute [local go_sem] max2_int min2_int max_two min_two max_three min_three max_four min_four
set_option linter.unusedVariables false
set_option linter.unusedSimpArgs false
def spec_l01Letter.f (a0:Int):Option (Bool):=if a0 ≥ 97 then (if a0≤122 then (some true) else (if a0 ≥ 65 then (some (decide (a0≤90))) else (some false))) else (if a0 ≥ 65 then (some (decide (a0≤90))) else (some false))
set_option maxHeartbeats 8000000 in
set_option maxRecDepth 100000 in
theorem spec_l01Letter.calls (a0:Int) (r:Bool) (w:World) (h:spec_l01Letter.f a0=some r):
  Calls Try.prog 115 #[.int .u8 a0] w fun e w'=>e= .returned (.bool r)∧Drawn0 w w':=by
 have H:(if a0 ≥ 97 then (if a0≤122 then (some true) else (if a0 ≥ 65 then (some (decide (a0≤90))) else (some false))) else (if a0 ≥ 65 then (some (decide (a0≤90))) else (some false)))=some r:=h
 clear h
 by_cases c2:a0 ≥ 97
 ·rw [if_pos c2] at H
  have c2b0:decide (97≤a0)=true:=decide_eq_true c2
  clear c2
  by_cases c3:a0≤122
  ·rw [if_pos c3] at H
   have c3b0:decide (a0≤122)=true:=decide_eq_true c3
   clear c3
   obtain rfl:=Option.some.inj H
   go_enter Try.func115,Try.ntmps115
   go_wp2
   go_ret
   exact ⟨by first|rfl|(simp;done)|(simp [*];done)|(simp [bne];done)|(simp [bne, *];done),by repeat (first|exact Drawn0.refl _|apply Drawn0.step)⟩
  ·rw [if_neg c3] at H
   have c3b0:decide (a0≤122)=false:=decide_eq_false c3
   clear c3
   by_cases c4:a0 ≥ 65
   ·rw [if_pos c4] at H
    have c4b0:decide (65≤a0)=true:=decide_eq_true c4
    clear c4
    obtain rfl:=Option.some.inj H
    go_enter Try.func115,Try.ntmps115
    go_wp2
    go_ret
    exact ⟨by first|rfl|(simp;done)|(simp [*];done)|(simp [bne];done)|(simp [bne, *];done),by repeat (first|exact Drawn0.refl _|apply Drawn0.step)⟩
   ·rw [if_neg c4] at H
    have c4b0:decide (65≤a0)=false:=decide_eq_false c4
    clear c4
    obtain rfl:=Option.some.inj H
    go_enter Try.func115,Try.ntmps115
    go_wp2
    go_ret
    exact ⟨by first|rfl|(simp;done)|(simp [*];done)|(simp [bne];done)|(simp [bne, *];done),by repeat (first|exact Drawn0.refl _|apply Drawn0.step)⟩
 ·rw [if_neg c2] at H
  have c2b0:decide (97≤a0)=false:=decide_eq_false c2
  clear c2
  by_cases c5:a0 ≥ 65
  ·rw [if_pos c5] at H
   have c5b0:decide (65≤a0)=true:=decide_eq_true c5
   clear c5
   obtain rfl:=Option.some.inj H
   go_enter Try.func115,Try.ntmps115
   go_wp2
   go_ret
   exact ⟨by first|rfl|(simp;done)|(simp [*];done)|(simp [bne];done)|(simp [bne, *];done),by repeat (first|exact Drawn0.refl _|apply Drawn0.step)⟩
  ·rw [if_neg c5] at H
   have c5b0:decide (65≤a0)=false:=decide_eq_false c5
   clear c5
   obtain rfl:=Option.some.inj H
   go_enter Try.func115,Try.ntmps115
   go_wp2
   go_ret
   exact ⟨by first|rfl|(simp;done)|(simp [*];done)|(simp [bne];done)|(simp [bne, *];done),by repeat (first|exact Drawn0.refl _|apply Drawn0.step)⟩
end Go.Proofs.Ytakpkmkjhndpjaa.Q
end
section
namespace Go.Proofs.Ytakpkmkjhndpjaa.Q
open Go.RowKit Go.Proofs.YtakpkmkjhndpjaaW.PrintWords Go.Proofs.YtakpkmkjhndpjaaW.PrintLast Go.Proofs.YtakpkmkjhndpjaaW.PrintMore
attribute [local go_sem] max2_int min2_int max_two min_two max_three min_three max_four min_four
set_option linter.unusedVariables false
set_option linter.unusedSimpArgs false
def spec_l01Digit.f (a0:Int):Option (Bool):=if a0 ≥ 48 then (some (decide (a0≤57))) else (some false)
set_option maxHeartbeats 8000000 in
set_option maxRecDepth 100000 in
theorem spec_l01Digit.calls (a0:Int) (r:Bool) (w:World) (h:spec_l01Digit.f a0=some r):
  Calls Try.prog 120 #[.int .u8 a0] w fun e w'=>e= .returned (.bool r)∧Drawn0 w w':=by
 have H:(if a0 ≥ 48 then (some (decide (a0≤57))) else (some false))=some r:=h
 clear h
 by_cases c2:a0 ≥ 48
 ·rw [if_pos c2] at H
  have c2b0:decide (48≤a0)=true:=decide_eq_true c2
  clear c2
  obtain rfl:=Option.some.inj H
  go_enter Try.func120,Try.ntmps120
  go_wp2
  go_ret
  exact ⟨by first|rfl|(simp;done)|(simp [*];done)|(simp [bne];done)|(simp [bne, *];done),by repeat (first|exact Drawn0.refl _|apply Drawn0.step)⟩
 ·rw [if_neg c2] at H
  have c2b0:decide (48≤a0)=false:=decide_eq_false c2
  clear c2
  obtain rfl:=Option.some.inj H
  go_enter Try.func120,Try.ntmps120
  go_wp2
  go_ret
  exact ⟨by first|rfl|(simp;done)|(simp [*];done)|(simp [bne];done)|(simp [bne, *];done),by repeat (first|exact Drawn0.refl _|apply Drawn0.step)⟩
end Go.Proofs.Ytakpkmkjhndpjaa.Q
end
section
namespace Go.Proofs.Ytakpkmkjhndpjaa.Q
open Go.RowKit Go.Proofs.YtakpkmkjhndpjaaW.PrintWords Go.Proofs.YtakpkmkjhndpjaaW.PrintLast Go.Proofs.YtakpkmkjhndpjaaW.PrintMore
attribute [local go_sem] max2_int min2_int max_two min_two max_three min_three max_four min_four
set_option linter.unusedVariables false
set_option linter.unusedSimpArgs false
def spec_l01NameByte.f (a0:Int):Option (Bool):=(spec_l01Letter.f a0).bind fun t330=>(if t330=true then (some true) else ((spec_l01Digit.f a0).bind fun t331=>(if t331=true then (some true) else (some (a0 == 95)))))
set_option maxHeartbeats 8000000 in
set_option maxRecDepth 100000 in
theorem spec_l01NameByte.calls (a0:Int) (r:Bool) (w:World) (h:spec_l01NameByte.f a0=some r):
  Calls Try.prog 116 #[.int .u8 a0] w fun e w'=>e= .returned (.bool r)∧Drawn0 w w':=by
 have H:((spec_l01Letter.f a0).bind fun t330=>(if t330=true then (some true) else ((spec_l01Digit.f a0).bind fun t331=>(if t331=true then (some true) else (some (a0 == 95))))))=some r:=h
 clear h
 replace H:=Option.bind_eq_some_iff.mp H
 obtain ⟨t330,A20,H⟩:=H
 replace H:(if t330=true then (some true) else ((spec_l01Digit.f a0).bind fun t331=>(if t331=true then (some true) else (some (a0 == 95)))))=some r:=H
 have A2:=A0_ A20
 clear A20
 by_cases c3:t330=true
 ·subst c3
  have H1:(some true)=some r:=by rw [if_pos rfl] at H;exact H
  clear H
  have H:=H1
  clear H1
  obtain rfl:=Option.some.inj H
  go_enter Try.func116,Try.ntmps116
  go_wp2_with (first|((with_reducible refine gate_callee (f:=115) rfl ?_);refine goesL_ (some 4) rfl rfl Try.func115 (by kernel_rfl) rfl #[.int .u8 a0] rfl (by (try simp only [List.map_toArray,List.map_cons,List.map_nil]);first|done|rfl|(simp only [List.length_drop,List.length_take];rfl)) ?_;(with_reducible refine (spec_l01Letter.calls a0 true _ A2.out).mono ?_);rintro e w' ⟨rfl,⟨nd,rfl⟩⟩;refine ⟨_,rfl, ?_⟩))
  go_ret
  exact ⟨by first|rfl|(simp;done)|(simp [*];done)|(simp [bne];done)|(simp [bne, *];done),by repeat (first|exact Drawn0.refl _|apply Drawn0.step)⟩
 ·replace c3:=Bool.eq_false_iff.mpr c3
  subst c3
  have H1:((spec_l01Digit.f a0).bind fun t331=>(if t331=true then (some true) else (some (a0 == 95))))=some r:=by rw [if_neg (show ¬ (false=true) by decide)] at H;exact H
  clear H
  have H:=H1
  clear H1
  replace H:=Option.bind_eq_some_iff.mp H
  obtain ⟨t331,A40,H⟩:=H
  replace H:(if t331=true then (some true) else (some (a0 == 95)))=some r:=H
  have A4:=A0_ A40
  clear A40
  by_cases c5:t331=true
  ·subst c5
   have H1:(some true)=some r:=by rw [if_pos rfl] at H;exact H
   clear H
   have H:=H1
   clear H1
   obtain rfl:=Option.some.inj H
   go_enter Try.func116,Try.ntmps116
   go_wp2_with (first|((with_reducible refine gate_callee (f:=115) rfl ?_);refine goesL_ (some 4) rfl rfl Try.func115 (by kernel_rfl) rfl #[.int .u8 a0] rfl (by (try simp only [List.map_toArray,List.map_cons,List.map_nil]);first|done|rfl|(simp only [List.length_drop,List.length_take];rfl)) ?_;(with_reducible refine (spec_l01Letter.calls a0 false _ A2.out).mono ?_);rintro e w' ⟨rfl,⟨nd,rfl⟩⟩;refine ⟨_,rfl, ?_⟩)|(go_at_call 120;(with_reducible refine (spec_l01Digit.calls a0 true _ A4.out).mono ?_);rintro e w' ⟨rfl,⟨nd,rfl⟩⟩))
   go_ret
   exact ⟨by first|rfl|(simp;done)|(simp [*];done)|(simp [bne];done)|(simp [bne, *];done),by repeat (first|exact Drawn0.refl _|apply Drawn0.step)⟩
  ·replace c5:=Bool.eq_false_iff.mpr c5
   subst c5
   have H1:(some (a0 == 95))=some r:=by rw [if_neg (show ¬ (false=true) by decide)] at H;exact H
   clear H
   have H:=H1
   clear H1
   obtain rfl:=Option.some.inj H
   go_enter Try.func116,Try.ntmps116
   go_wp2_with (first|((with_reducible refine gate_callee (f:=115) rfl ?_);refine goesL_ (some 4) rfl rfl Try.func115 (by kernel_rfl) rfl #[.int .u8 a0] rfl (by (try simp only [List.map_toArray,List.map_cons,List.map_nil]);first|done|rfl|(simp only [List.length_drop,List.length_take];rfl)) ?_;(with_reducible refine (spec_l01Letter.calls a0 false _ A2.out).mono ?_);rintro e w' ⟨rfl,⟨nd,rfl⟩⟩;refine ⟨_,rfl, ?_⟩)|(go_at_call 120;(with_reducible refine (spec_l01Digit.calls a0 false _ A4.out).mono ?_);rintro e w' ⟨rfl,⟨nd,rfl⟩⟩))
   go_ret
   exact ⟨by first|rfl|(simp;done)|(simp [*];done)|(simp [bne];done)|(simp [bne, *];done),by repeat (first|exact Drawn0.refl _|apply Drawn0.step)⟩
end Go.Proofs.Ytakpkmkjhndpjaa.Q
end
section
namespace Go.Proofs.Ytakpkmkjhndpjaa.Q
open Go.RowKit Go.Proofs.YtakpkmkjhndpjaaW.PrintWords Go.Proofs.YtakpkmkjhndpjaaW.PrintLast Go.Proofs.YtakpkmkjhndpjaaW.PrintMore
attribute [local go_sem] max2_int min2_int max_two min_two max_three min_three max_four min_four
set_option linter.unusedVariables false
set_option linter.unusedSimpArgs false
mutual
def spec_l01Name.j0:Nat→ByteArray→Bool→Option (Bool)
 |0,_,_=>none
 |k + 1,x0,x17=>if x17=true then (some false) else (spec_l01Name.l0 k x0 1)
def spec_l01Name.l0:Nat→ByteArray→Int→Option (Bool)
 |0,_,_=>none
 |k + 1,x0,x3=>if x3 < (x0.size:Int) then (if 0≤x3 then ((spec_l01NameByte.f (bt x0 x3)).bind fun t333=>(if t333=true then (spec_l01Name.l0 k x0 (wrap64 (x3 + 1))) else (some false))) else (none)) else (some true)
end
def spec_l01Name.f (k:Nat) (a0:ByteArray):Option (Bool):=if (a0.size:Int) < 1 then (spec_l01Name.j0 k a0 true) else (if (a0.size:Int) > 24 then (spec_l01Name.j0 k a0 true) else (if 0 < (a0.size:Int) then ((spec_l01Letter.f (bt a0 0)).bind fun t332=>(spec_l01Name.j0 k a0 (!t332))) else (none)))
set_option maxHeartbeats 8000000 in
set_option maxRecDepth 100000 in
theorem spec_l01Name.calls (k:Nat) (a0:ByteArray) (r:Bool) (w:World) (h:spec_l01Name.f k a0=some r):
  Calls Try.prog 107 #[.string a0] w fun e w'=>e= .returned (.bool r)∧Drawn0 w w':=by
 have H:(if (a0.size:Int) < 1 then (spec_l01Name.j0 k a0 true) else (if (a0.size:Int) > 24 then (spec_l01Name.j0 k a0 true) else (if 0 < (a0.size:Int) then ((spec_l01Letter.f (bt a0 0)).bind fun t332=>(spec_l01Name.j0 k a0 (!t332))) else (none))))=some r:=h
 clear h
 have HC2:=A0_ H
 clear H
 go_enter Try.func107,Try.ntmps107
 go_upto_region 1 with (fail)
 go_cut [17] (fun v17 wc=> ∃ (kq:Nat) (x17_1:Bool),v17= .bool x17_1∧Aside0 (spec_l01Name.j0 kq a0 x17_1=some r)∧Aside0 (kq≤k)∧Drawn0 w wc)
 case first=>
  have H:=HC2.out
  clear HC2
  by_cases c3:(a0.size:Int) < 1
  ·rw [if_pos c3] at H
   have c3b0:decide ((a0.size:Int) < 1)=true:=decide_eq_true c3
   have c3b1:decide (a0.size < 1)=true:=decide_eq_true (by omega)
   clear c3
   (first|rw [c3b0] |(simp only [i64_w,i32_w];rw [c3b0])|skip)
   have H':=A0_ H
   clear H
   go_wp2
   go_meet
   case rel=>exact ⟨_,(true),(by first|rfl|(simp;done)|(simp [*];done)|(simp [bne];done)|(simp [bne, *];done)),H',⟨by first|omega|exact Nat.le_refl _⟩,by repeat (first|exact Drawn0.refl _|apply Drawn0.step)⟩
  ·rw [if_neg c3] at H
   have c3b0:decide ((a0.size:Int) < 1)=false:=decide_eq_false c3
   have c3b1:decide (a0.size < 1)=false:=decide_eq_false (by omega)
   clear c3
   (first|rw [c3b0] |(simp only [i64_w,i32_w];rw [c3b0])|skip)
   by_cases c4:(a0.size:Int) > 24
   ·rw [if_pos c4] at H
    have c4b0:decide (24 < (a0.size:Int))=true:=decide_eq_true c4
    have c4b1:decide (24 < a0.size)=true:=decide_eq_true (by omega)
    clear c4
    have H':=A0_ H
    clear H
    go_wp2
    go_meet
    case rel=>exact ⟨_,(true),(by first|rfl|(simp;done)|(simp [*];done)|(simp [bne];done)|(simp [bne, *];done)),H',⟨by first|omega|exact Nat.le_refl _⟩,by repeat (first|exact Drawn0.refl _|apply Drawn0.step)⟩
   ·rw [if_neg c4] at H
    have c4b0:decide (24 < (a0.size:Int))=false:=decide_eq_false c4
    have c4b1:decide (24 < a0.size)=false:=decide_eq_false (by omega)
    clear c4
    by_cases c5:0 < (a0.size:Int)
    ·rw [if_pos c5] at H
     have c5b0:decide (0 < (a0.size:Int))=true:=decide_eq_true c5
     have c5b1:decide (0 < a0.size)=true:=decide_eq_true (by omega)
     clear c5
     replace H:=Option.bind_eq_some_iff.mp H
     obtain ⟨t332,A70,H⟩:=H
     replace H:(spec_l01Name.j0 k a0 (!t332))=some r:=H
     have A7:=A0_ A70
     clear A70
     have H':=A0_ H
     clear H
     have p6:0≤(0:Int):=(by omega)
     have q6:0 < a0.size:=(by have:(0:Int) < (a0.size:Int):=of_decide_eq_true (by first|(with_reducible assumption)|assumption);omega)
     have hx6: ∀ h:0 < a0.size,((a0[0]'h).toNat:Int)=bt a0 0:=bt_at a0 0
     clear p6
     have qi6:(0 < (a0.size:Int))=True:=eq_true (of_decide_eq_true (by first|(with_reducible assumption)|assumption))
     replace q6:=eq_true q6
     go_wp2_with (first|(go_at_call 115;(with_reducible refine (spec_l01Letter.calls (bt a0 0) t332 _ A7.out).mono ?_);rintro e w' ⟨rfl,⟨nd,rfl⟩⟩))
     go_meet
     case rel=>exact ⟨_,(!t332),(by first|rfl|(simp;done)|(simp [*];done)|(simp [bne];done)|(simp [bne, *];done)),H',⟨by first|omega|exact Nat.le_refl _⟩,by repeat (first|exact Drawn0.refl _|apply Drawn0.step)⟩
    ·rw [if_neg c5] at H
     exact absurd H (by simp)
 case rest=>
  clear HC2
  try clear c1
  try clear p2
  try clear c3
  try clear c3b0
  try clear c3b1
  try clear c4
  try clear c4b0
  try clear c4b1
  try clear c5
  try clear c5b0
  try clear c5b1
  try clear p6
  try clear q6
  try clear hx6
  try clear qi6
  try clear p6
  try clear q6
  obtain ⟨kq,x17_1,rfl,HA,HJ1,⟨mc1,rfl⟩⟩:=hcut
  cases kq with
  |zero=>exact absurd HA.out (by simp [spec_l01Name.j0])
  |succ kj1=>
   have H:=HA.out
   clear HA
   simp only [spec_l01Name.j0] at H
   by_cases c8:x17_1=true
   ·subst c8
    have H1:(some false)=some r:=by rw [if_pos rfl] at H;exact H
    clear H
    have H:=H1
    clear H1
    obtain rfl:=Option.some.inj H
    go_wp2
    go_ret
    exact ⟨by first|rfl|(simp;done)|(simp [*];done)|(simp [bne];done)|(simp [bne, *];done),by repeat (first|exact Drawn0.refl _|apply Drawn0.step)⟩
   ·replace c8:=Bool.eq_false_iff.mpr c8
    subst c8
    have H1:(spec_l01Name.l0 kj1 a0 1)=some r:=by rw [if_neg (show ¬ (false=true) by decide)] at H;exact H
    clear H
    have H:=H1
    clear H1
    have H':=A0_ H
    clear H
    go_wp2
    go_loopg [3] kj1 (fun kq v3 w'=> ∃ (x3_2:Int),v3= .int .i64 x3_2∧Aside0 (spec_l01Name.l0 kq a0 x3_2=some r)∧Aside0 (kq≤kj1)∧Drawn0 w w')
    case atStart=>exact ⟨(1),(by first|rfl|(simp;done)|(simp [*];done)|(simp [bne];done)|(simp [bne, *];done)),H',⟨Nat.le_refl _⟩,by repeat (first|exact Drawn0.refl _|apply Drawn0.step)⟩
    case round=>
     clear H'
     try clear c1
     try clear p2
     try clear c3
     try clear c3b0
     try clear c3b1
     try clear c4
     try clear c4b0
     try clear c4b1
     try clear c5
     try clear c5b0
     try clear c5b1
     try clear p6
     try clear q6
     try clear hx6
     try clear qi6
     try clear c8
     try clear p2
     try clear p6
     try clear q6
     obtain ⟨x3_2,rfl,HA,HK2,⟨m2,rfl⟩⟩:=hrel
     cases gk with
     |zero=>exact absurd HA.out (by simp [spec_l01Name.l0])
     |succ k2=>
      have H:=HA.out
      clear HA
      simp only [spec_l01Name.l0] at H
      by_cases c9:x3_2 < (a0.size:Int)
      ·rw [if_pos c9] at H
       have c9b0:decide (x3_2 < (a0.size:Int))=true:=decide_eq_true c9
       clear c9
       by_cases c10:0≤x3_2
       ·rw [if_pos c10] at H
        have c10b0:decide (0≤x3_2)=true:=decide_eq_true c10
        clear c10
        replace H:=Option.bind_eq_some_iff.mp H
        obtain ⟨t333,A120,H⟩:=H
        replace H:(if t333=true then (spec_l01Name.l0 k2 a0 (wrap64 (x3_2 + 1))) else (some false))=some r:=H
        have A12:=A0_ A120
        clear A120
        by_cases c13:t333=true
        ·subst c13
         have H1:(spec_l01Name.l0 k2 a0 (wrap64 (x3_2 + 1)))=some r:=by rw [if_pos rfl] at H;exact H
         clear H
         have H:=H1
         clear H1
         have H':=A0_ H
         clear H
         have p11:0≤(x3_2:Int):=of_decide_eq_true (by first|(with_reducible assumption)|assumption)
         have q11:x3_2 < (a0.size:Int):=of_decide_eq_true (by first|(with_reducible assumption)|assumption)
         have hx11:=bt_at a0 x3_2
         replace p11:=eq_true p11
         replace q11:=eq_true q11
         go_wp2_with (first|((with_reducible refine gate_callee (f:=116) rfl ?_);refine goesL_ (some 27) rfl rfl Try.func116 (by kernel_rfl) rfl #[.int .u8 (bt a0 x3_2)] rfl (by (try simp only [List.map_toArray,List.map_cons,List.map_nil]);first|done|rfl|(simp only [List.length_drop,List.length_take];rfl)) ?_;(with_reducible refine (spec_l01NameByte.calls (bt a0 x3_2) true _ A12.out).mono ?_);rintro e w' ⟨rfl,⟨nd,rfl⟩⟩;refine ⟨_,rfl, ?_⟩))
         go_roundg k2
         case measure=>have:=HJ1.out;have:=HK2.out;omega
         case rel=>exact ⟨(wrap64 (x3_2 + 1)),(by first|rfl|(simp;done)|(simp [*];done)|(simp [bne];done)|(simp [bne, *];done)),H',⟨by have:=HJ1.out;have:=HK2.out;omega⟩,by repeat (first|exact Drawn0.refl _|apply Drawn0.step)⟩
        ·replace c13:=Bool.eq_false_iff.mpr c13
         subst c13
         have H1:(some false)=some r:=by rw [if_neg (show ¬ (false=true) by decide)] at H;exact H
         clear H
         have H:=H1
         clear H1
         obtain rfl:=Option.some.inj H
         have p11:0≤(x3_2:Int):=of_decide_eq_true (by first|(with_reducible assumption)|assumption)
         have q11:x3_2 < (a0.size:Int):=of_decide_eq_true (by first|(with_reducible assumption)|assumption)
         have hx11:=bt_at a0 x3_2
         replace p11:=eq_true p11
         replace q11:=eq_true q11
         go_wp2_with (first|((with_reducible refine gate_callee (f:=116) rfl ?_);refine goesL_ (some 27) rfl rfl Try.func116 (by kernel_rfl) rfl #[.int .u8 (bt a0 x3_2)] rfl (by (try simp only [List.map_toArray,List.map_cons,List.map_nil]);first|done|rfl|(simp only [List.length_drop,List.length_take];rfl)) ?_;(with_reducible refine (spec_l01NameByte.calls (bt a0 x3_2) false _ A12.out).mono ?_);rintro e w' ⟨rfl,⟨nd,rfl⟩⟩;refine ⟨_,rfl, ?_⟩))
         go_ret
         exact ⟨by first|rfl|(simp;done)|(simp [*];done)|(simp [bne];done)|(simp [bne, *];done),by repeat (first|exact Drawn0.refl _|apply Drawn0.step)⟩
       ·rw [if_neg c10] at H
        exact absurd H (by simp)
      ·rw [if_neg c9] at H
       have c9b0:decide (x3_2 < (a0.size:Int))=false:=decide_eq_false c9
       clear c9
       obtain rfl:=Option.some.inj H
       go_wp2
       go_ret
       exact ⟨by first|rfl|(simp;done)|(simp [*];done)|(simp [bne];done)|(simp [bne, *];done),by repeat (first|exact Drawn0.refl _|apply Drawn0.step)⟩
end Go.Proofs.Ytakpkmkjhndpjaa.Q
end
section
namespace Go.Proofs.Ytakpkmkjhndpjaa.Q
open Go.RowKit Go.Proofs.YtakpkmkjhndpjaaW.PrintWords Go.Proofs.YtakpkmkjhndpjaaW.PrintLast Go.Proofs.YtakpkmkjhndpjaaW.PrintMore
attribute [local go_sem] max2_int min2_int max_two min_two max_three min_three max_four min_four
set_option linter.unusedVariables false
set_option linter.unusedSimpArgs false
mutual
def spec_l01Right.j0:Nat→Bool→ByteArray→ByteArray→Bool→List (S26)→Option (Bool)
 |0,_,_,_,_,_=>none
 |k + 1,x33,x335000,x335001,x335002,x335003=>if x33=true then (some false) else (spec_l01Right.l0 k 0 x335000 x335001 x335002 x335003)
def spec_l01Right.l0:Nat→Int→ByteArray→ByteArray→Bool→List (S26)→Option (Bool)
 |0,_,_,_,_,_=>none
 |k + 1,x3,x335000,x335001,x335002,x335003=>if x3 < (x335003.length:Int) then (if 0≤x3 then ((spec_l01Right.f k ((rd_T26 x335003 x3).f0) ((rd_T26 x335003 x3).f1) ((rd_T26 x335003 x3).f2) ((rd_T26 x335003 x3).f3)).bind fun t337=>(if t337=true then (spec_l01Right.l0 k (wrap64 (x3 + 1)) x335000 x335001 x335002 x335003) else (some false))) else (none)) else (some true)
def spec_l01Right.f:Nat→ByteArray→ByteArray→Bool→List (S26)→Option (Bool)
 |0,_,_,_,_=>none
 |k + 1,a0_0,a0_1,a0_2,l0_3=>(spec_l01Name.f k a0_0).bind fun t335=>(if t335=true then (if a0_2=true then (if (l0_3.length:Int) > 0 then (spec_l01Right.j0 k true a0_0 a0_1 a0_2 l0_3) else (if (a0_1.size:Int) > 200 then (spec_l01Right.j0 k true a0_0 a0_1 a0_2 l0_3) else (spec_l01Right.j0 k false a0_0 a0_1 a0_2 l0_3))) else (spec_l01Right.j0 k (a0_1.toList != ([]:List UInt8)) a0_0 a0_1 a0_2 l0_3)) else (spec_l01Right.j0 k true a0_0 a0_1 a0_2 l0_3))
end
set_option maxHeartbeats 8000000 in
set_option maxRecDepth 100000 in
theorem spec_l01Right.calls (k:Nat): ∀ (a0_0:ByteArray) (a0_1:ByteArray) (a0_2:Bool) (A0_3:Option Addr) (c0_3:Nat) (l0_3:List (S26)) (r:Bool) (w:World) (hr0_3:Kd.C k26 w A0_3 l0_3.length l0_3) (hc0_3:l0_3.length≤c0_3) (h:spec_l01Right.f k a0_0 a0_1 a0_2 l0_3=some r),
  Calls Try.prog 86 #[.agg #[.string a0_0, .string a0_1, .bool a0_2, .slice A0_3 l0_3.length c0_3]] w fun e w'=>e= .returned (.bool r)∧Below w.heap.size w w':=by
 induction k using Nat.strongRecOn with
 |_ k ih=>
 intro a0_0 a0_1 a0_2 A0_3 c0_3 l0_3 r w hr0_3 hc0_3 h
 cases k with
 |zero=>exact absurd h (by simp [spec_l01Right.f])
 |succ k=>
 simp only [spec_l01Right.f] at h
 have hu26:=Try.underlying26
 have HR0_3:=A0_ hr0_3
 have HC0_3:=A0_ hc0_3
 clear hr0_3 hc0_3
 have HB:=A0_ (Below.refl w.heap.size w)
 have H:((spec_l01Name.f k a0_0).bind fun t335=>(if t335=true then (if a0_2=true then (if (l0_3.length:Int) > 0 then (spec_l01Right.j0 k true a0_0 a0_1 a0_2 l0_3) else (if (a0_1.size:Int) > 200 then (spec_l01Right.j0 k true a0_0 a0_1 a0_2 l0_3) else (spec_l01Right.j0 k false a0_0 a0_1 a0_2 l0_3))) else (spec_l01Right.j0 k (a0_1.toList != ([]:List UInt8)) a0_0 a0_1 a0_2 l0_3)) else (spec_l01Right.j0 k true a0_0 a0_1 a0_2 l0_3)))=some r:=h
 clear h
 have HC2:=A0_ H
 clear H
 go_enter Try.func86,Try.ntmps86
 go_upto_region 1 with (first|((with_reducible refine gate_dst (N:=1) rfl ?_);(try (refine gate_guard (by rfl) ?_;dsimp only));refine box_event ?hg (N:=1) ?hd (cs:= #[.string a0_0, .string a0_1, .bool a0_2, .slice A0_3 l0_3.length c0_3]) (t:=26) ?hr ?_;(case hd=>rfl);(case hg=>rfl);(case hr=>first|(go_simp;done)|(go_simp;rfl));intro gb334 hg w3 hbox hb;have BK334:=A0_ (hbox);have GW334:=A0_ ((by rw [hg];exact (below_size HB.out):w.heap.size≤gb334));have GE334:=A0_ ((by rw [hg];exact (below_size HB.out):w.heap.size≤gb334));replace HB:=A0_ (below_step HB.out hb);clear hb hbox hg))
 (try simp only [Act.put,List.setIfInBounds_toArray,List.set_cons_zero,List.set_cons_succ])
 go_cut [33] (fun v33 wc=> ∃ (kq:Nat) (x33_1:Bool),v33= .bool x33_1∧Aside0 (spec_l01Right.j0 kq x33_1 a0_0 a0_1 a0_2 l0_3=some r)∧Aside0 (kq≤k)∧Aside0 (wc.heap[gb334]?= some (.cells #[.string a0_0, .string a0_1, .bool a0_2,(.slice A0_3 l0_3.length c0_3)] 26 (0,0)))∧Aside0 (Below w.heap.size w wc))
 case first=>
  have H:=HC2.out
  clear HC2
  replace H:=Option.bind_eq_some_iff.mp H
  obtain ⟨t335,A40,H⟩:=H
  replace H:(if t335=true then (if a0_2=true then (if (l0_3.length:Int) > 0 then (spec_l01Right.j0 k true a0_0 a0_1 a0_2 l0_3) else (if (a0_1.size:Int) > 200 then (spec_l01Right.j0 k true a0_0 a0_1 a0_2 l0_3) else (spec_l01Right.j0 k false a0_0 a0_1 a0_2 l0_3))) else (spec_l01Right.j0 k (a0_1.toList != ([]:List UInt8)) a0_0 a0_1 a0_2 l0_3)) else (spec_l01Right.j0 k true a0_0 a0_1 a0_2 l0_3))=some r:=H
  have A4:=A0_ A40
  clear A40
  by_cases c5:t335=true
  ·subst c5
   have H1:(if a0_2=true then (if (l0_3.length:Int) > 0 then (spec_l01Right.j0 k true a0_0 a0_1 a0_2 l0_3) else (if (a0_1.size:Int) > 200 then (spec_l01Right.j0 k true a0_0 a0_1 a0_2 l0_3) else (spec_l01Right.j0 k false a0_0 a0_1 a0_2 l0_3))) else (spec_l01Right.j0 k (a0_1.toList != ([]:List UInt8)) a0_0 a0_1 a0_2 l0_3))=some r:=by rw [if_pos rfl] at H;exact H
   clear H
   have H:=H1
   clear H1
   by_cases c6:a0_2=true
   ·subst c6
    have H1:(if (l0_3.length:Int) > 0 then (spec_l01Right.j0 k true a0_0 a0_1 true l0_3) else (if (a0_1.size:Int) > 200 then (spec_l01Right.j0 k true a0_0 a0_1 true l0_3) else (spec_l01Right.j0 k false a0_0 a0_1 true l0_3)))=some r:=by rw [if_pos rfl] at H;exact H
    clear H
    have H:=H1
    clear H1
    by_cases c7:(l0_3.length:Int) > 0
    ·rw [if_pos c7] at H
     have c7b0:decide (0 < (l0_3.length:Int))=true:=decide_eq_true c7
     have c7b1:decide (0 < l0_3.length)=true:=decide_eq_true (by omega)
     clear c7
     (first|rw [c7b0] |(simp only [i64_w,i32_w];rw [c7b0])|skip)
     have H':=A0_ H
     clear H
     obtain ⟨hcz8_0,hcz8_1,hcz8_2,hcz8_3⟩:=bc4_ BK334.out
     obtain ⟨hfz8_0,hfz8_1,hfz8_2,hfz8_3⟩:=bf4_ BK334.out
     go_wp2_with (first|((with_reducible refine gate_callee (f:=107) rfl ?_);refine goesL_ (some 6) rfl rfl Try.func107 (by kernel_rfl) rfl #[.string a0_0] rfl (by (try simp only [List.map_toArray,List.map_cons,List.map_nil]);first|done|rfl|(simp only [List.length_drop,List.length_take];rfl)) ?_;(with_reducible refine (spec_l01Name.calls k a0_0 true _ A4.out).mono ?_);rintro e w' ⟨rfl,⟨nd,rfl⟩⟩;refine ⟨_,rfl, ?_⟩))
     go_meet
     case rel=>exact ⟨_,(true),(by first|rfl|(simp;done)|(simp [*];done)|(simp [bne];done)|(simp [bne, *];done)),H',⟨by first|omega|exact Nat.le_refl _⟩,⟨by (with_reducible repeat (first|refine blk_drewN ?_ _|refine blk_drew ?_|refine blk_alloc ?_ _));exact BK334.out⟩,⟨by repeat (first|(with_reducible first|exact HB.out|apply below_alloc|apply pw_below_drewN|apply below_drew1|refine below_set ?_ GE334.out)|exact HB.out)⟩⟩
    ·rw [if_neg c7] at H
     have c7b0:decide (0 < (l0_3.length:Int))=false:=decide_eq_false c7
     have c7b1:decide (0 < l0_3.length)=false:=decide_eq_false (by omega)
     clear c7
     (first|rw [c7b0] |(simp only [i64_w,i32_w];rw [c7b0])|skip)
     by_cases c9:(a0_1.size:Int) > 200
     ·rw [if_pos c9] at H
      have c9b0:decide (200 < (a0_1.size:Int))=true:=decide_eq_true c9
      have c9b1:decide (200 < a0_1.size)=true:=decide_eq_true (by omega)
      clear c9
      have H':=A0_ H
      clear H
      obtain ⟨hcz10_0,hcz10_1,hcz10_2,hcz10_3⟩:=bc4_ BK334.out
      obtain ⟨hfz10_0,hfz10_1,hfz10_2,hfz10_3⟩:=bf4_ BK334.out
      go_wp2_with (first|((with_reducible refine gate_callee (f:=107) rfl ?_);refine goesL_ (some 6) rfl rfl Try.func107 (by kernel_rfl) rfl #[.string a0_0] rfl (by (try simp only [List.map_toArray,List.map_cons,List.map_nil]);first|done|rfl|(simp only [List.length_drop,List.length_take];rfl)) ?_;(with_reducible refine (spec_l01Name.calls k a0_0 true _ A4.out).mono ?_);rintro e w' ⟨rfl,⟨nd,rfl⟩⟩;refine ⟨_,rfl, ?_⟩))
      go_meet
      case rel=>exact ⟨_,(true),(by first|rfl|(simp;done)|(simp [*];done)|(simp [bne];done)|(simp [bne, *];done)),H',⟨by first|omega|exact Nat.le_refl _⟩,⟨by (with_reducible repeat (first|refine blk_drewN ?_ _|refine blk_drew ?_|refine blk_alloc ?_ _));exact BK334.out⟩,⟨by repeat (first|(with_reducible first|exact HB.out|apply below_alloc|apply pw_below_drewN|apply below_drew1|refine below_set ?_ GE334.out)|exact HB.out)⟩⟩
     ·rw [if_neg c9] at H
      have c9b0:decide (200 < (a0_1.size:Int))=false:=decide_eq_false c9
      have c9b1:decide (200 < a0_1.size)=false:=decide_eq_false (by omega)
      clear c9
      have H':=A0_ H
      clear H
      obtain ⟨hcz11_0,hcz11_1,hcz11_2,hcz11_3⟩:=bc4_ BK334.out
      obtain ⟨hfz11_0,hfz11_1,hfz11_2,hfz11_3⟩:=bf4_ BK334.out
      go_wp2_with (first|((with_reducible refine gate_callee (f:=107) rfl ?_);refine goesL_ (some 6) rfl rfl Try.func107 (by kernel_rfl) rfl #[.string a0_0] rfl (by (try simp only [List.map_toArray,List.map_cons,List.map_nil]);first|done|rfl|(simp only [List.length_drop,List.length_take];rfl)) ?_;(with_reducible refine (spec_l01Name.calls k a0_0 true _ A4.out).mono ?_);rintro e w' ⟨rfl,⟨nd,rfl⟩⟩;refine ⟨_,rfl, ?_⟩))
      go_meet
      case rel=>exact ⟨_,(false),(by first|rfl|(simp;done)|(simp [*];done)|(simp [bne];done)|(simp [bne, *];done)),H',⟨by first|omega|exact Nat.le_refl _⟩,⟨by (with_reducible repeat (first|refine blk_drewN ?_ _|refine blk_drew ?_|refine blk_alloc ?_ _));exact BK334.out⟩,⟨by repeat (first|(with_reducible first|exact HB.out|apply below_alloc|apply pw_below_drewN|apply below_drew1|refine below_set ?_ GE334.out)|exact HB.out)⟩⟩
   ·replace c6:=Bool.eq_false_iff.mpr c6
    subst c6
    have H1:(spec_l01Right.j0 k (a0_1.toList != ([]:List UInt8)) a0_0 a0_1 false l0_3)=some r:=by rw [if_neg (show ¬ (false=true) by decide)] at H;exact H
    clear H
    have H:=H1
    clear H1
    have H':=A0_ H
    clear H
    obtain ⟨hcz12_0,hcz12_1,hcz12_2,hcz12_3⟩:=bc4_ BK334.out
    obtain ⟨hfz12_0,hfz12_1,hfz12_2,hfz12_3⟩:=bf4_ BK334.out
    go_wp2_with (first|((with_reducible refine gate_callee (f:=107) rfl ?_);refine goesL_ (some 6) rfl rfl Try.func107 (by kernel_rfl) rfl #[.string a0_0] rfl (by (try simp only [List.map_toArray,List.map_cons,List.map_nil]);first|done|rfl|(simp only [List.length_drop,List.length_take];rfl)) ?_;(with_reducible refine (spec_l01Name.calls k a0_0 true _ A4.out).mono ?_);rintro e w' ⟨rfl,⟨nd,rfl⟩⟩;refine ⟨_,rfl, ?_⟩))
    go_meet
    case rel=>exact ⟨_,((a0_1.toList != ([]:List UInt8))),(by first|rfl|(simp;done)|(simp [*];done)|(simp [bne];done)|(simp [bne, *];done)),H',⟨by first|omega|exact Nat.le_refl _⟩,⟨by (with_reducible repeat (first|refine blk_drewN ?_ _|refine blk_drew ?_|refine blk_alloc ?_ _));exact BK334.out⟩,⟨by repeat (first|(with_reducible first|exact HB.out|apply below_alloc|apply pw_below_drewN|apply below_drew1|refine below_set ?_ GE334.out)|exact HB.out)⟩⟩
  ·replace c5:=Bool.eq_false_iff.mpr c5
   subst c5
   have H1:(spec_l01Right.j0 k true a0_0 a0_1 a0_2 l0_3)=some r:=by rw [if_neg (show ¬ (false=true) by decide)] at H;exact H
   clear H
   have H:=H1
   clear H1
   have H':=A0_ H
   clear H
   obtain ⟨hcz13_0,hcz13_1,hcz13_2,hcz13_3⟩:=bc4_ BK334.out
   obtain ⟨hfz13_0,hfz13_1,hfz13_2,hfz13_3⟩:=bf4_ BK334.out
   go_wp2_with (first|((with_reducible refine gate_callee (f:=107) rfl ?_);refine goesL_ (some 6) rfl rfl Try.func107 (by kernel_rfl) rfl #[.string a0_0] rfl (by (try simp only [List.map_toArray,List.map_cons,List.map_nil]);first|done|rfl|(simp only [List.length_drop,List.length_take];rfl)) ?_;(with_reducible refine (spec_l01Name.calls k a0_0 false _ A4.out).mono ?_);rintro e w' ⟨rfl,⟨nd,rfl⟩⟩;refine ⟨_,rfl, ?_⟩))
   go_meet
   case rel=>exact ⟨_,(true),(by first|rfl|(simp;done)|(simp [*];done)|(simp [bne];done)|(simp [bne, *];done)),H',⟨by first|omega|exact Nat.le_refl _⟩,⟨by (with_reducible repeat (first|refine blk_drewN ?_ _|refine blk_drew ?_|refine blk_alloc ?_ _));exact BK334.out⟩,⟨by repeat (first|(with_reducible first|exact HB.out|apply below_alloc|apply pw_below_drewN|apply below_drew1|refine below_set ?_ GE334.out)|exact HB.out)⟩⟩
 case rest=>
  clear HC2
  try clear c1
  try clear p2
  try clear c5
  try clear c6
  try clear c7
  try clear c7b0
  try clear c7b1
  try clear c8
  try clear c9
  try clear c9b0
  try clear c9b1
  try clear c10
  try clear hcz10_0
  try clear hcz10_1
  try clear hcz10_2
  try clear hcz10_3
  try clear hcz11_0
  try clear hcz11_1
  try clear hcz11_2
  try clear hcz11_3
  try clear hcz12_0
  try clear hcz12_1
  try clear hcz12_2
  try clear hcz12_3
  try clear hcz13_0
  try clear hcz13_1
  try clear hcz13_2
  try clear hcz13_3
  try clear hcz8_0
  try clear hcz8_1
  try clear hcz8_2
  try clear hcz8_3
  try clear hfz10_0
  try clear hfz10_1
  try clear hfz10_2
  try clear hfz10_3
  try clear hfz11_0
  try clear hfz11_1
  try clear hfz11_2
  try clear hfz11_3
  try clear hfz12_0
  try clear hfz12_1
  try clear hfz12_2
  try clear hfz12_3
  try clear hfz13_0
  try clear hfz13_1
  try clear hfz13_2
  try clear hfz13_3
  try clear hfz8_0
  try clear hfz8_1
  try clear hfz8_2
  try clear hfz8_3
  obtain ⟨kq,x33_1,rfl,HA,HJ1,BK334,HB⟩:=hcut
  cases kq with
  |zero=>exact absurd HA.out (by simp [spec_l01Right.j0])
  |succ kj1=>
   have H:=HA.out
   clear HA
   simp only [spec_l01Right.j0] at H
   by_cases c14:x33_1=true
   ·subst c14
    have H1:(some false)=some r:=by rw [if_pos rfl] at H;exact H
    clear H
    have H:=H1
    clear H1
    obtain rfl:=Option.some.inj H
    go_wp2
    go_ret
    exact ⟨by first|rfl|(simp [errW_none,errW_some] <;> rfl)|(simp [*,errW_none,errW_some] <;> rfl),by repeat (first|(with_reducible first|exact HB.out|apply below_alloc|apply pw_below_drewN|apply below_drew1|refine below_set ?_ GE334.out)|exact HB.out)⟩
   ·replace c14:=Bool.eq_false_iff.mpr c14
    subst c14
    have H1:(spec_l01Right.l0 kj1 0 a0_0 a0_1 a0_2 l0_3)=some r:=by rw [if_neg (show ¬ (false=true) by decide)] at H;exact H
    clear H
    have H:=H1
    clear H1
    have H':=A0_ H
    clear H
    go_wp2
    go_loopg [3] kj1 (fun kq v3 w'=> ∃ (x3_2:Int),v3= .int .i64 x3_2∧Aside0 (spec_l01Right.l0 kq x3_2 a0_0 a0_1 a0_2 l0_3=some r)∧Aside0 (kq≤kj1)∧Aside0 (w'.heap[gb334]?= some (.cells #[.string a0_0, .string a0_1, .bool a0_2,(.slice A0_3 l0_3.length c0_3)] 26 (0,0)))∧Aside0 (Below w.heap.size w w'))
    case atStart=>exact ⟨(0),(by first|rfl|(simp;done)|(simp [*];done)|(simp [bne];done)|(simp [bne, *];done)),H',⟨Nat.le_refl _⟩,⟨by (with_reducible repeat (first|refine blk_drewN ?_ _|refine blk_drew ?_|refine blk_alloc ?_ _));exact BK334.out⟩,⟨by repeat (first|(with_reducible first|exact HB.out|apply below_alloc|apply pw_below_drewN|apply below_drew1|refine below_set ?_ GE334.out)|exact HB.out)⟩⟩
    case round=>
     clear H'
     try clear c1
     try clear p2
     try clear c5
     try clear c6
     try clear c7
     try clear c7b0
     try clear c7b1
     try clear c8
     try clear c9
     try clear c9b0
     try clear c9b1
     try clear c10
     try clear c14
     try clear hcz10_0
     try clear hcz10_1
     try clear hcz10_2
     try clear hcz10_3
     try clear hcz11_0
     try clear hcz11_1
     try clear hcz11_2
     try clear hcz11_3
     try clear hcz12_0
     try clear hcz12_1
     try clear hcz12_2
     try clear hcz12_3
     try clear hcz13_0
     try clear hcz13_1
     try clear hcz13_2
     try clear hcz13_3
     try clear hcz8_0
     try clear hcz8_1
     try clear hcz8_2
     try clear hcz8_3
     try clear hfz10_0
     try clear hfz10_1
     try clear hfz10_2
     try clear hfz10_3
     try clear hfz11_0
     try clear hfz11_1
     try clear hfz11_2
     try clear hfz11_3
     try clear hfz12_0
     try clear hfz12_1
     try clear hfz12_2
     try clear hfz12_3
     try clear hfz13_0
     try clear hfz13_1
     try clear hfz13_2
     try clear hfz13_3
     try clear hfz8_0
     try clear hfz8_1
     try clear hfz8_2
     try clear hfz8_3
     try clear p2
     obtain ⟨x3_2,rfl,HA,HK2,BK334,HB⟩:=hrel
     cases gk with
     |zero=>exact absurd HA.out (by simp [spec_l01Right.l0])
     |succ k2=>
      have H:=HA.out
      clear HA
      simp only [spec_l01Right.l0] at H
      by_cases c15:x3_2 < (l0_3.length:Int)
      ·rw [if_pos c15] at H
       have c15b0:decide (x3_2 < (l0_3.length:Int))=true:=decide_eq_true c15
       clear c15
       by_cases c16:0≤x3_2
       ·rw [if_pos c16] at H
        have c16b0:decide (0≤x3_2)=true:=decide_eq_true c16
        clear c16
        replace H:=Option.bind_eq_some_iff.mp H
        obtain ⟨t337,A170,H⟩:=H
        replace H:(if t337=true then (spec_l01Right.l0 k2 (wrap64 (x3_2 + 1)) a0_0 a0_1 a0_2 l0_3) else (some false))=some r:=H
        have A17:=A0_ A170
        clear A170
        by_cases c18:t337=true
        ·subst c18
         have H1:(spec_l01Right.l0 k2 (wrap64 (x3_2 + 1)) a0_0 a0_1 a0_2 l0_3)=some r:=by rw [if_pos rfl] at H;exact H
         clear H
         have H:=H1
         clear H1
         have H':=A0_ H
         clear H
         obtain ⟨hcz19_0,hcz19_1,hcz19_2,hcz19_3⟩:=bc4_ BK334.out
         obtain ⟨hfz19_0,hfz19_1,hfz19_2,hfz19_3⟩:=bf4_ BK334.out
         have p336:0≤(x3_2:Int):=of_decide_eq_true (by first|(with_reducible assumption)|assumption)
         have q336:x3_2 < (l0_3.length:Int):=of_decide_eq_true (by first|(with_reducible assumption)|assumption)
         obtain ⟨ad336,A336_3,c336_3,e336,hx336_0,hx336_1,hx336_2,hx336_3,hl336_3,hi336_3⟩:=at_T26 HR0_3.out x3_2 p336 q336
         have hk336_3:=hx336_3
         cases e336
         replace hx336_0:=(HB.out.cell (World.block_lt_of_cell? w _ hx336_0)).trans hx336_0
         replace hx336_1:=(HB.out.cell (World.block_lt_of_cell? w _ hx336_1)).trans hx336_1
         replace hx336_2:=(HB.out.cell (World.block_lt_of_cell? w _ hx336_2)).trans hx336_2
         replace hx336_3:=(HB.out.cell (World.block_lt_of_cell? w _ hx336_3)).trans hx336_3
         have HR336_3:=A0_ hi336_3
         have HC336_3:=A0_ hl336_3
         clear hi336_3 hl336_3
         replace p336:=eq_true p336
         replace q336:=eq_true q336
         go_wp2_with (first|((with_reducible refine gate_callee (f:=86) rfl ?_);refine goesL_ (some 46) rfl rfl Try.func86 (by kernel_rfl) rfl #[.agg #[.string ((rd_T26 l0_3 x3_2).f0), .string ((rd_T26 l0_3 x3_2).f1), .bool ((rd_T26 l0_3 x3_2).f2), .slice A336_3 ((rd_T26 l0_3 x3_2).f3).length c336_3]] rfl (by (try simp only [List.map_toArray,List.map_cons,List.map_nil]);first|done|rfl|(simp only [List.length_drop,List.length_take];rfl)) ?_;(with_reducible refine (ih k2 (by have:=HJ1.out;have:=HK2.out;omega) ((rd_T26 l0_3 x3_2).f0) ((rd_T26 l0_3 x3_2).f1) ((rd_T26 l0_3 x3_2).f2) _ _ ((rd_T26 l0_3 x3_2).f3) true _ ?side1 ?side2 A17.out).mono ?_);(case side1=>repeat (first|exact (Kd.C_below HR336_3.out HB.out)|(with_reducible refine Kd.C_alloc ?_ _)|(with_reducible refine Kd.C_drewN ?_ _)|(with_reducible refine Kd.C_drew ?_)));(case side2=>exact HC336_3.out);rintro e w20 ⟨rfl,hb⟩;refine ⟨_,rfl, ?_⟩;replace BK334:=A0_ (blk_below BK334.out hb);replace HB:=A0_ (below_step HB.out hb);(try clear hb);(try clear hb2);(try clear hk);(try clear hi)))
         go_roundg k2
         case measure=>have:=HJ1.out;have:=HK2.out;omega
         case rel=>exact ⟨(wrap64 (x3_2 + 1)),(by first|rfl|(simp;done)|(simp [*];done)|(simp [bne];done)|(simp [bne, *];done)),H',⟨by have:=HJ1.out;have:=HK2.out;omega⟩,⟨by (with_reducible repeat (first|refine blk_drewN ?_ _|refine blk_drew ?_|refine blk_alloc ?_ _));exact BK334.out⟩,⟨by repeat (first|(with_reducible first|exact HB.out|apply below_alloc|apply pw_below_drewN|apply below_drew1|refine below_set ?_ GE334.out)|exact HB.out)⟩⟩
        ·replace c18:=Bool.eq_false_iff.mpr c18
         subst c18
         have H1:(some false)=some r:=by rw [if_neg (show ¬ (false=true) by decide)] at H;exact H
         clear H
         have H:=H1
         clear H1
         obtain rfl:=Option.some.inj H
         obtain ⟨hcz21_0,hcz21_1,hcz21_2,hcz21_3⟩:=bc4_ BK334.out
         obtain ⟨hfz21_0,hfz21_1,hfz21_2,hfz21_3⟩:=bf4_ BK334.out
         have p336:0≤(x3_2:Int):=of_decide_eq_true (by first|(with_reducible assumption)|assumption)
         have q336:x3_2 < (l0_3.length:Int):=of_decide_eq_true (by first|(with_reducible assumption)|assumption)
         obtain ⟨ad336,A336_3,c336_3,e336,hx336_0,hx336_1,hx336_2,hx336_3,hl336_3,hi336_3⟩:=at_T26 HR0_3.out x3_2 p336 q336
         have hk336_3:=hx336_3
         cases e336
         replace hx336_0:=(HB.out.cell (World.block_lt_of_cell? w _ hx336_0)).trans hx336_0
         replace hx336_1:=(HB.out.cell (World.block_lt_of_cell? w _ hx336_1)).trans hx336_1
         replace hx336_2:=(HB.out.cell (World.block_lt_of_cell? w _ hx336_2)).trans hx336_2
         replace hx336_3:=(HB.out.cell (World.block_lt_of_cell? w _ hx336_3)).trans hx336_3
         have HR336_3:=A0_ hi336_3
         have HC336_3:=A0_ hl336_3
         clear hi336_3 hl336_3
         replace p336:=eq_true p336
         replace q336:=eq_true q336
         go_wp2_with (first|((with_reducible refine gate_callee (f:=86) rfl ?_);refine goesL_ (some 46) rfl rfl Try.func86 (by kernel_rfl) rfl #[.agg #[.string ((rd_T26 l0_3 x3_2).f0), .string ((rd_T26 l0_3 x3_2).f1), .bool ((rd_T26 l0_3 x3_2).f2), .slice A336_3 ((rd_T26 l0_3 x3_2).f3).length c336_3]] rfl (by (try simp only [List.map_toArray,List.map_cons,List.map_nil]);first|done|rfl|(simp only [List.length_drop,List.length_take];rfl)) ?_;(with_reducible refine (ih k2 (by have:=HJ1.out;have:=HK2.out;omega) ((rd_T26 l0_3 x3_2).f0) ((rd_T26 l0_3 x3_2).f1) ((rd_T26 l0_3 x3_2).f2) _ _ ((rd_T26 l0_3 x3_2).f3) false _ ?side1 ?side2 A17.out).mono ?_);(case side1=>repeat (first|exact (Kd.C_below HR336_3.out HB.out)|(with_reducible refine Kd.C_alloc ?_ _)|(with_reducible refine Kd.C_drewN ?_ _)|(with_reducible refine Kd.C_drew ?_)));(case side2=>exact HC336_3.out);rintro e w22 ⟨rfl,hb⟩;refine ⟨_,rfl, ?_⟩;replace BK334:=A0_ (blk_below BK334.out hb);replace HB:=A0_ (below_step HB.out hb);(try clear hb);(try clear hb2);(try clear hk);(try clear hi)))
         go_ret
         exact ⟨by first|rfl|(simp [errW_none,errW_some] <;> rfl)|(simp [*,errW_none,errW_some] <;> rfl),by repeat (first|(with_reducible first|exact HB.out|apply below_alloc|apply pw_below_drewN|apply below_drew1|refine below_set ?_ GE334.out)|exact HB.out)⟩
       ·rw [if_neg c16] at H
        exact absurd H (by simp)
      ·rw [if_neg c15] at H
       have c15b0:decide (x3_2 < (l0_3.length:Int))=false:=decide_eq_false c15
       clear c15
       obtain rfl:=Option.some.inj H
       obtain ⟨hcz23_0,hcz23_1,hcz23_2,hcz23_3⟩:=bc4_ BK334.out
       obtain ⟨hfz23_0,hfz23_1,hfz23_2,hfz23_3⟩:=bf4_ BK334.out
       go_wp2
       go_ret
       exact ⟨by first|rfl|(simp [errW_none,errW_some] <;> rfl)|(simp [*,errW_none,errW_some] <;> rfl),by repeat (first|(with_reducible first|exact HB.out|apply below_alloc|apply pw_below_drewN|apply below_drew1|refine below_set ?_ GE334.out)|exact HB.out)⟩
end Go.Proofs.Ytakpkmkjhndpjaa.Q
end
section
namespace Go.Proofs.Ytakpkmkjhndpjaa.Q
open Go.RowKit Go.Proofs.YtakpkmkjhndpjaaW.PrintWords Go.Proofs.YtakpkmkjhndpjaaW.PrintLast Go.Proofs.YtakpkmkjhndpjaaW.PrintMore
attribute [local go_sem] max2_int min2_int max_two min_two max_three min_three max_four min_four
set_option linter.unusedVariables false
set_option linter.unusedSimpArgs false
def spec_TreeOK.f (k:Nat) (a0_0:ByteArray) (a0_1:ByteArray) (a0_2:Bool) (l0_3:List (S26)):Option (Bool):=(spec_l01Room.f k a0_0 a0_1 a0_2 l0_3 1000 60).bind fun t339=>(if t339 ≥ 0 then ((spec_l01Right.f k a0_0 a0_1 a0_2 l0_3).bind fun t340=>(some t340)) else (some false))
set_option maxHeartbeats 8000000 in
set_option maxRecDepth 100000 in
theorem spec_TreeOK.calls (k:Nat) (a0_0:ByteArray) (a0_1:ByteArray) (a0_2:Bool) (A0_3:Option Addr) (c0_3:Nat) (l0_3:List (S26)) (r:Bool) (w:World) (hr0_3:Kd.C k26 w A0_3 l0_3.length l0_3) (hc0_3:l0_3.length≤c0_3) (h:spec_TreeOK.f k a0_0 a0_1 a0_2 l0_3=some r):
  Calls Try.prog 41 #[.agg #[.string a0_0, .string a0_1, .bool a0_2, .slice A0_3 l0_3.length c0_3]] w fun e w'=>e= .returned (.bool r)∧Below w.heap.size w w':=by
 have hu26:=Try.underlying26
 have HR0_3:=A0_ hr0_3
 have HC0_3:=A0_ hc0_3
 clear hr0_3 hc0_3
 have HB:=A0_ (Below.refl w.heap.size w)
 have H:((spec_l01Room.f k a0_0 a0_1 a0_2 l0_3 1000 60).bind fun t339=>(if t339 ≥ 0 then ((spec_l01Right.f k a0_0 a0_1 a0_2 l0_3).bind fun t340=>(some t340)) else (some false)))=some r:=h
 clear h
 replace H:=Option.bind_eq_some_iff.mp H
 obtain ⟨t339,A20,H⟩:=H
 replace H:(if t339 ≥ 0 then ((spec_l01Right.f k a0_0 a0_1 a0_2 l0_3).bind fun t340=>(some t340)) else (some false))=some r:=H
 have A2:=A0_ A20
 clear A20
 by_cases c3:t339 ≥ 0
 ·rw [if_pos c3] at H
  have c3b0:decide (0≤t339)=true:=decide_eq_true c3
  clear c3
  replace H:=Option.bind_eq_some_iff.mp H
  obtain ⟨t340,A40,H⟩:=H
  replace H:(some t340)=some r:=H
  have A4:=A0_ A40
  clear A40
  obtain rfl:=Option.some.inj H
  go_enter Try.func41,Try.ntmps41
  go_wp2_with (first|((with_reducible refine gate_dst (N:=1) rfl ?_);refine box_event ?hg (N:=1) ?hd (cs:= #[.string a0_0, .string a0_1, .bool a0_2, .slice A0_3 l0_3.length c0_3]) (t:=26) ?hr ?_;(case hd=>rfl);(case hg=>rfl);(case hr=>first|(go_simp;done)|(go_simp;rfl));intro gb338 hg w5 hbox hb;have n0_:=A0_ (below_step (by repeat (first|(with_reducible first|exact HB.out|apply below_alloc|apply pw_below_drewN|apply below_drew1)|exact HB.out)) hb);have n1_:=A0_ (hbox);have n2_:=A0_ ((by rw [hg];exact (below_size (by repeat (first|(with_reducible first|exact HB.out|apply below_alloc|apply pw_below_drewN|apply below_drew1)|exact HB.out))):w.heap.size≤gb338));have n3_:=A0_ ((by rw [hg];exact (below_size (by repeat (first|(with_reducible first|exact HB.out|apply below_alloc|apply pw_below_drewN|apply below_drew1)|exact HB.out))):w.heap.size≤gb338));clear HB;have HB:=n0_;have BK338:=n1_;have GW338:=n2_;have GE338:=n3_;clear n0_ n1_ n2_ n3_;clear hb hbox hg;obtain ⟨hcz6_0,hcz6_1,hcz6_2,hcz6_3⟩:=bc4_ BK338.out;obtain ⟨hfz6_0,hfz6_1,hfz6_2,hfz6_3⟩:=bf4_ BK338.out)|((with_reducible refine gate_callee (f:=85) rfl ?_);refine goesL_ (some 4) rfl rfl Try.func85 (by kernel_rfl) rfl #[.agg #[.string a0_0, .string a0_1, .bool a0_2, .slice A0_3 l0_3.length c0_3], .int .i64 1000, .int .i64 60] rfl (by (try simp only [List.map_toArray,List.map_cons,List.map_nil]);first|done|rfl|(simp only [List.length_drop,List.length_take];rfl)) ?_;(with_reducible refine (spec_l01Room.calls k a0_0 a0_1 a0_2 _ _ l0_3 1000 60 t339 _ ?side1 ?side2 A2.out).mono ?_);(case side1=>repeat (first|exact (Kd.C_below HR0_3.out HB.out)|(with_reducible refine Kd.C_alloc ?_ _)|(with_reducible refine Kd.C_drewN ?_ _)|(with_reducible refine Kd.C_drew ?_)));(case side2=>exact HC0_3.out);rintro e w7 ⟨rfl,hb⟩;refine ⟨_,rfl, ?_⟩;have n0_:=A0_ (blk_below (g:=gb338) (o:= .cells #[.string a0_0, .string a0_1, .bool a0_2, .slice A0_3 l0_3.length c0_3] 26 (0,0)) (by (with_reducible repeat (first|refine blk_drewN ?_ _|refine blk_drew ?_|refine blk_alloc ?_ _));exact BK338.out) hb);have n1_:=A0_ (below_step (by repeat (first|(with_reducible first|exact HB.out|apply below_alloc|apply pw_below_drewN|apply below_drew1|refine below_set ?_ GE338.out)|exact HB.out)) hb);clear BK338;clear HB;have BK338:=n0_;have HB:=n1_;clear n0_ n1_;(try clear hb);(try clear hb2);(try clear hk);(try clear hi);obtain ⟨hcz8_0,hcz8_1,hcz8_2,hcz8_3⟩:=bc4_ BK338.out;obtain ⟨hfz8_0,hfz8_1,hfz8_2,hfz8_3⟩:=bf4_ BK338.out)|(go_at_call 86;(with_reducible refine (spec_l01Right.calls k a0_0 a0_1 a0_2 _ _ l0_3 t340 _ ?side1 ?side2 A4.out).mono ?_);(case side1=>repeat (first|exact (Kd.C_below HR0_3.out HB.out)|(with_reducible refine Kd.C_alloc ?_ _)|(with_reducible refine Kd.C_drewN ?_ _)|(with_reducible refine Kd.C_drew ?_)));(case side2=>exact HC0_3.out);rintro e w9 ⟨rfl,hb⟩;have n0_:=A0_ (blk_below (g:=gb338) (o:= .cells #[.string a0_0, .string a0_1, .bool a0_2, .slice A0_3 l0_3.length c0_3] 26 (0,0)) (by (with_reducible repeat (first|refine blk_drewN ?_ _|refine blk_drew ?_|refine blk_alloc ?_ _));exact BK338.out) hb);have n1_:=A0_ (below_step (by repeat (first|(with_reducible first|exact HB.out|apply below_alloc|apply pw_below_drewN|apply below_drew1|refine below_set ?_ GE338.out)|exact HB.out)) hb);clear BK338;clear HB;have BK338:=n0_;have HB:=n1_;clear n0_ n1_;(try clear hb);(try clear hb2);(try clear hk);(try clear hi)))
  go_ret
  exact ⟨by first|rfl|(simp [errW_none,errW_some] <;> rfl)|(simp [*,errW_none,errW_some] <;> rfl),by repeat (first|(with_reducible first|exact HB.out|apply below_alloc|apply pw_below_drewN|apply below_drew1|refine below_set ?_ GE338.out)|exact HB.out)⟩
 ·rw [if_neg c3] at H
  have c3b0:decide (0≤t339)=false:=decide_eq_false c3
  clear c3
  obtain rfl:=Option.some.inj H
  go_enter Try.func41,Try.ntmps41
  go_wp2_with (first|((with_reducible refine gate_dst (N:=1) rfl ?_);refine box_event ?hg (N:=1) ?hd (cs:= #[.string a0_0, .string a0_1, .bool a0_2, .slice A0_3 l0_3.length c0_3]) (t:=26) ?hr ?_;(case hd=>rfl);(case hg=>rfl);(case hr=>first|(go_simp;done)|(go_simp;rfl));intro gb338 hg w10 hbox hb;have n0_:=A0_ (below_step (by repeat (first|(with_reducible first|exact HB.out|apply below_alloc|apply pw_below_drewN|apply below_drew1)|exact HB.out)) hb);have n1_:=A0_ (hbox);have n2_:=A0_ ((by rw [hg];exact (below_size (by repeat (first|(with_reducible first|exact HB.out|apply below_alloc|apply pw_below_drewN|apply below_drew1)|exact HB.out))):w.heap.size≤gb338));have n3_:=A0_ ((by rw [hg];exact (below_size (by repeat (first|(with_reducible first|exact HB.out|apply below_alloc|apply pw_below_drewN|apply below_drew1)|exact HB.out))):w.heap.size≤gb338));clear HB;have HB:=n0_;have BK338:=n1_;have GW338:=n2_;have GE338:=n3_;clear n0_ n1_ n2_ n3_;clear hb hbox hg;obtain ⟨hcz11_0,hcz11_1,hcz11_2,hcz11_3⟩:=bc4_ BK338.out;obtain ⟨hfz11_0,hfz11_1,hfz11_2,hfz11_3⟩:=bf4_ BK338.out)|((with_reducible refine gate_callee (f:=85) rfl ?_);refine goesL_ (some 4) rfl rfl Try.func85 (by kernel_rfl) rfl #[.agg #[.string a0_0, .string a0_1, .bool a0_2, .slice A0_3 l0_3.length c0_3], .int .i64 1000, .int .i64 60] rfl (by (try simp only [List.map_toArray,List.map_cons,List.map_nil]);first|done|rfl|(simp only [List.length_drop,List.length_take];rfl)) ?_;(with_reducible refine (spec_l01Room.calls k a0_0 a0_1 a0_2 _ _ l0_3 1000 60 t339 _ ?side1 ?side2 A2.out).mono ?_);(case side1=>repeat (first|exact (Kd.C_below HR0_3.out HB.out)|(with_reducible refine Kd.C_alloc ?_ _)|(with_reducible refine Kd.C_drewN ?_ _)|(with_reducible refine Kd.C_drew ?_)));(case side2=>exact HC0_3.out);rintro e w12 ⟨rfl,hb⟩;refine ⟨_,rfl, ?_⟩;have n0_:=A0_ (blk_below (g:=gb338) (o:= .cells #[.string a0_0, .string a0_1, .bool a0_2, .slice A0_3 l0_3.length c0_3] 26 (0,0)) (by (with_reducible repeat (first|refine blk_drewN ?_ _|refine blk_drew ?_|refine blk_alloc ?_ _));exact BK338.out) hb);have n1_:=A0_ (below_step (by repeat (first|(with_reducible first|exact HB.out|apply below_alloc|apply pw_below_drewN|apply below_drew1|refine below_set ?_ GE338.out)|exact HB.out)) hb);clear BK338;clear HB;have BK338:=n0_;have HB:=n1_;clear n0_ n1_;(try clear hb);(try clear hb2);(try clear hk);(try clear hi)))
  go_ret
  exact ⟨by first|rfl|(simp [errW_none,errW_some] <;> rfl)|(simp [*,errW_none,errW_some] <;> rfl),by repeat (first|(with_reducible first|exact HB.out|apply below_alloc|apply pw_below_drewN|apply below_drew1|refine below_set ?_ GE338.out)|exact HB.out)⟩
end Go.Proofs.Ytakpkmkjhndpjaa.Q
end
section
namespace Go.Proofs.Ytakpkmkjhndpjaa.Q
open Go.RowKit Go.Proofs.YtakpkmkjhndpjaaW.PrintWords Go.Proofs.YtakpkmkjhndpjaaW.PrintLast Go.Proofs.YtakpkmkjhndpjaaW.PrintMore
attribute [local go_sem] max2_int min2_int max_two min_two max_three min_three max_four min_four
set_option linter.unusedVariables false
set_option linter.unusedSimpArgs false
def spec_l01Between.f (a0:Int) (a1:Int) (a2:Int):Option (Bool):=if a0 ≥ a1 then (some (decide (a0≤a2))) else (some false)
set_option maxHeartbeats 8000000 in
set_option maxRecDepth 100000 in
theorem spec_l01Between.calls (a0:Int) (a1:Int) (a2:Int) (r:Bool) (w:World) (h:spec_l01Between.f a0 a1 a2=some r):
  Calls Try.prog 87 #[.int .i64 a0, .int .i64 a1, .int .i64 a2] w fun e w'=>e= .returned (.bool r)∧Drawn0 w w':=by
 have H:(if a0 ≥ a1 then (some (decide (a0≤a2))) else (some false))=some r:=h
 clear h
 by_cases c4:a0 ≥ a1
 ·rw [if_pos c4] at H
  have c4b0:decide (a1≤a0)=true:=decide_eq_true c4
  clear c4
  obtain rfl:=Option.some.inj H
  go_enter Try.func87,Try.ntmps87
  go_wp2
  go_ret
  exact ⟨by first|rfl|(simp;done)|(simp [*];done)|(simp [bne];done)|(simp [bne, *];done),by repeat (first|exact Drawn0.refl _|apply Drawn0.step)⟩
 ·rw [if_neg c4] at H
  have c4b0:decide (a1≤a0)=false:=decide_eq_false c4
  clear c4
  obtain rfl:=Option.some.inj H
  go_enter Try.func87,Try.ntmps87
  go_wp2
  go_ret
  exact ⟨by first|rfl|(simp;done)|(simp [*];done)|(simp [bne];done)|(simp [bne, *];done),by repeat (first|exact Drawn0.refl _|apply Drawn0.step)⟩
end Go.Proofs.Ytakpkmkjhndpjaa.Q
end
section
namespace Go.Proofs.Ytakpkmkjhndpjaa.Q
open Go.RowKit Go.Proofs.YtakpkmkjhndpjaaW.PrintWords Go.Proofs.YtakpkmkjhndpjaaW.PrintLast Go.Proofs.YtakpkmkjhndpjaaW.PrintMore
attribute [local go_sem] max2_int min2_int max_two min_two max_three min_three max_four min_four
set_option linter.unusedVariables false
set_option linter.unusedSimpArgs false
def spec_l01Leads.l0:Nat→List Int→Int→ByteArray→ByteArray→Bool→List (S26)→Option (Bool)
 |0,_,_,_,_,_,_=>none
 |k + 1,x1,x5,x342000,x342001,x342002,x342003=>if x5 < (x1.length:Int) then (if 0≤x5 then ((spec_l01Between.f (rd x1 x5) 0 (wrap64 ((x342003.length:Int) - 1))).bind fun t343=>(if t343=true then (if 0≤(rd x1 x5) then (if (rd x1 x5) < (x342003.length:Int) then (spec_l01Leads.l0 k x1 (wrap64 (x5 + 1)) ((rd_T26 x342003 (rd x1 x5)).f0) ((rd_T26 x342003 (rd x1 x5)).f1) ((rd_T26 x342003 (rd x1 x5)).f2) ((rd_T26 x342003 (rd x1 x5)).f3)) else (none)) else (none)) else (some false))) else (none)) else (some true)
def spec_l01Leads.f (k:Nat) (a0_0:ByteArray) (a0_1:ByteArray) (a0_2:Bool) (l0_3:List (S26)) (l1:List Int):Option (Bool):=spec_l01Leads.l0 k l1 0 a0_0 a0_1 a0_2 l0_3
def spec_l01Leads.T4:Bool × List (List Nat × List Nat):=(true, [([], []),([], []),([0,1], [0,1]),([2], [2]),([], []),([4], [4]),([5], [5]),([6], [6]),([3,7], [3,7]),([8], [8])])
def spec_l01Leads.B4:List Nat:= [0,0,3,7,0,16,48,112,255,511]
theorem spec_l01Leads.tab4:rtab .any (opsOf Try.f42 4)=spec_l01Leads.T4:=by kernel_rfl
theorem spec_l01Leads.bits4:waitsOk spec_l01Leads.T4.2 spec_l01Leads.B4=true:=by kernel_rfl
def spec_l01Leads.T6:Bool × List (List Nat × List Nat):=(true, [([], []),([0], [0]),([], []),([], []),([2,3], [2,3]),([4], [4]),([1,5], [1,5]),([6], [6]),([7,0,1,2,3,4,5,6,7], [7])])
def spec_l01Leads.B6:List Nat:= [0,1,0,0,12,28,63,127,255]
theorem spec_l01Leads.tab6:rtab .any (opsOf Try.f42 6)=spec_l01Leads.T6:=by kernel_rfl
theorem spec_l01Leads.bits6:waitsOk spec_l01Leads.T6.2 spec_l01Leads.B6=true:=by kernel_rfl
set_option maxHeartbeats 8000000 in
set_option maxRecDepth 100000 in
theorem spec_l01Leads.calls (k:Nat) (a0_0:ByteArray) (a0_1:ByteArray) (a0_2:Bool) (P0_3_:Nat→Prop) (A0_3:Option Addr) (c0_3:Nat) (l0_3:List (S26)) (A1:Option Addr) (c1:Nat) (l1:List Int) (r:Bool) (w:World) (hs0_3:Kd.V k26 26 w w.heap.size (fun k_=>P0_3_ k_) (.slice A0_3 l0_3.length c0_3) l0_3) (hr1:Kd.C (Kd.int .i64) w A1 l1.length l1) (hc1:l1.length≤c1) (h:spec_l01Leads.f k a0_0 a0_1 a0_2 l0_3 l1=some r):
  Calls Try.prog 42 #[.agg #[.string a0_0, .string a0_1, .bool a0_2, .slice A0_3 l0_3.length c0_3], .slice A1 l1.length c1] w fun e w'=>e= .returned (.bool r)∧Below w.heap.size w w':=by
 have hu26:=Try.underlying26
 have HO0_3:=A0_ (show Kd.V k26 26 w w.heap.size (fun k_=>(P0_3_ k_∨w.heap.size≤k_)) (.slice A0_3 l0_3.length c0_3) l0_3 from Kd.V_mono hs0_3 (fun k_ hk=> .inl hk))
 have HR1:=A0_ hr1
 have HC1:=A0_ hc1
 clear hr1 hc1
 have HB:=A0_ (Below.refl w.heap.size w)
 have H:(spec_l01Leads.l0 k l1 0 a0_0 a0_1 a0_2 l0_3)=some r:=h
 clear h
 have H':=A0_ H
 clear H
 go_enter Try.func42,Try.ntmps42
 go_wp2_with (first|((with_reducible refine gate_dst (N:=2) rfl ?_);refine box_event ?hg (N:=2) ?hd (cs:= #[.string a0_0, .string a0_1, .bool a0_2, .slice A0_3 l0_3.length c0_3]) (t:=26) ?hr ?_;(case hd=>rfl);(case hg=>rfl);(case hr=>first|(go_simp;done)|(go_simp;rfl));intro gb341 hg w3 hbox hb;replace HO0_3:=A0_ (Kd.V_below (Kd.V_elderB HO0_3.out gb341 (Nat.le_of_eq hg.symm)) hb);have BK341:=A0_ (hbox);have GW341:=A0_ ((by rw [hg];exact (below_size HB.out):w.heap.size≤gb341));have GE341:=A0_ ((by rw [hg];exact (below_size HB.out):w.heap.size≤gb341));replace HB:=A0_ (below_step HB.out hb);clear hb hbox hg))
 go_loopg [5] k (fun kq v5 w'=> ∃ (x5_1:Int) (x342000_1:ByteArray) (x342001_1:ByteArray) (x342002_1:Bool) (x342003_1:List (S26)) (u342003:Value),v5= .int .i64 x5_1∧Aside0 (spec_l01Leads.l0 kq l1 x5_1 x342000_1 x342001_1 x342002_1 x342003_1=some r)∧Aside0 (kq≤k)∧Aside0 (Kd.V k26 26 w' w.heap.size (fun k_=>(P0_3_ k_∨w.heap.size≤k_)∧k_≠gb341) u342003 x342003_1)∧Aside0 (w'.heap[gb341]?= some (.cells #[.string x342000_1, .string x342001_1, .bool x342002_1,u342003] 26 (0,0)))∧Aside0 (Below w.heap.size w w'))
 case atStart=>exact ⟨(0),(a0_0),(a0_1),(a0_2),(l0_3),(.slice A0_3 l0_3.length c0_3),(by first|rfl|(simp;done)|(simp [*];done)|(simp [bne];done)|(simp [bne, *];done)),H',⟨Nat.le_refl _⟩,⟨by (with_reducible repeat (first|apply Kd.V_alloc|apply Kd.V_drewN|apply Kd.V_drew));exact HO0_3.out⟩,⟨by (with_reducible repeat (first|refine blk_drewN ?_ _|refine blk_drew ?_|refine blk_alloc ?_ _));exact BK341.out⟩,⟨by repeat (first|(with_reducible first|exact HB.out|apply below_alloc|apply pw_below_drewN|apply below_drew1|refine below_set ?_ GE341.out)|exact HB.out)⟩⟩
 case round=>
  clear H'
  try clear c1
  try clear p2
  obtain ⟨x5_1,x342000_1,x342001_1,x342002_1,x342003_1,u342003,rfl,HA,HK1,HO_342003,BK341,HB⟩:=hrel
  cases gk with
  |zero=>exact absurd HA.out (by simp [spec_l01Leads.l0])
  |succ k1=>
   have H:=HA.out
   clear HA
   simp only [spec_l01Leads.l0] at H
   by_cases c4:x5_1 < (l1.length:Int)
   ·rw [if_pos c4] at H
    have c4b0:decide (x5_1 < (l1.length:Int))=true:=decide_eq_true c4
    clear c4
    by_cases c5:0≤x5_1
    ·rw [if_pos c5] at H
     have c5b0:decide (0≤x5_1)=true:=decide_eq_true c5
     clear c5
     replace H:=Option.bind_eq_some_iff.mp H
     obtain ⟨t343,A60,H⟩:=H
     replace H:(if t343=true then (if 0≤(rd l1 x5_1) then (if (rd l1 x5_1) < (x342003_1.length:Int) then (spec_l01Leads.l0 k1 l1 (wrap64 (x5_1 + 1)) ((rd_T26 x342003_1 (rd l1 x5_1)).f0) ((rd_T26 x342003_1 (rd l1 x5_1)).f1) ((rd_T26 x342003_1 (rd l1 x5_1)).f2) ((rd_T26 x342003_1 (rd l1 x5_1)).f3)) else (none)) else (none)) else (some false))=some r:=H
     have A6:=A0_ A60
     clear A60
     by_cases c7:t343=true
     ·subst c7
      have H1:(if 0≤(rd l1 x5_1) then (if (rd l1 x5_1) < (x342003_1.length:Int) then (spec_l01Leads.l0 k1 l1 (wrap64 (x5_1 + 1)) ((rd_T26 x342003_1 (rd l1 x5_1)).f0) ((rd_T26 x342003_1 (rd l1 x5_1)).f1) ((rd_T26 x342003_1 (rd l1 x5_1)).f2) ((rd_T26 x342003_1 (rd l1 x5_1)).f3)) else (none)) else (none))=some r:=by rw [if_pos rfl] at H;exact H
      clear H
      have H:=H1
      clear H1
      by_cases c8:0≤(rd l1 x5_1)
      ·rw [if_pos c8] at H
       have c8b0:decide (0≤(rd l1 x5_1))=true:=decide_eq_true c8
       clear c8
       by_cases c9:(rd l1 x5_1) < (x342003_1.length:Int)
       ·rw [if_pos c9] at H
        have c9b0:decide ((rd l1 x5_1) < (x342003_1.length:Int))=true:=decide_eq_true c9
        clear c9
        have H':=A0_ H
        clear H
        try go_wp2
        have n0_:=A0_ (Kd.V_drew HO_342003.out)
        have n1_:=A0_ (blk_drew BK341.out)
        have n2_:=A0_ (below_drew1 HB.out)
        clear HO_342003
        clear BK341
        clear HB
        have HO_342003:=n0_
        have BK341:=n1_
        have HB:=n2_
        clear n0_ n1_ n2_
        have p342:0≤(x5_1:Int):=of_decide_eq_true (by first|(with_reducible assumption)|assumption)
        have q342:x5_1 < (l1.length:Int):=of_decide_eq_true (by first|(with_reducible assumption)|assumption)
        obtain ⟨ad342,e342,hx342_0⟩:=Kd.at_int HR1.out x5_1 p342 q342
        have hw342_0:=hx342_0
        cases e342
        replace hx342_0:=(HB.out.cell (World.block_lt_of_cell? w _ hx342_0)).trans hx342_0
        replace p342:=eq_true p342
        replace q342:=eq_true q342
        obtain ⟨Ao11,co11,eo11⟩:=Kd.V_slice HO_342003.out
        (first|subst eo11|(injection eo11 with f1_ f2_ f3_;have f4_:=f1_.symm;have f5_:=f3_.symm;clear f1_ f2_ f3_;subst f4_;subst f5_))
        refine start_ (n:=10) (S:=fun w'=>w'.cell? ⟨gb341,0,none⟩=some (.string x342000_1)∧w'.cell? ⟨gb341,1,none⟩=some (.string x342001_1)∧w'.cell? ⟨gb341,2,none⟩=some (.bool x342002_1)∧w'.cell? ⟨gb341,3,none⟩=some (.slice Ao11 x342003_1.length co11)∧w'.cell? (ad342.add (x5_1).toNat)=some (.int .i64 (rd l1 x5_1))) (ds:= []) #[false,false,false,false,false,false,false,false,false,false] (by kernel_rfl) rfl rfl ⟨(blk_cell BK341.out 0).trans rfl,(blk_cell BK341.out 1).trans rfl,(blk_cell BK341.out 2).trans rfl,(blk_cell BK341.out 3).trans rfl,((HB.out.cell (World.block_lt_of_cell? w _ hw342_0)).trans hw342_0)⟩ (fun hHeld=> ?_);refine with_tabW spec_l01Leads.tab4 spec_l01Leads.bits4 (fun HT_ HW_=> ?_)
        generalize wr.drew=w10 at HO_342003 BK341 HB hx342_0 hHeld ⊢
        refine pure_ (i:=0) (N:=some 12) (v:= ?_) (a':= ?_) #[true,false,false,false,false,false,false,false,false,false] rfl rfl (any_of HT_.out (by kernel_rfl)) (fun _ _ _ h=>h) (Or.inl ⟨by rfl, ?_⟩) ?_ ?_
        rotate_left
        ·intro w'
         go_simp
         with_reducible rfl
        rotate_left
        ·simp only [Act.put,List.setIfInBounds_toArray,List.set_cons_zero,List.set_cons_succ,i64_w,i32_w]
         rfl
        refine pure_ (i:=1) (N:=some 13) (v:= ?_) (a':= ?_) #[true,true,false,false,false,false,false,false,false,false] rfl rfl (any_of HT_.out (by kernel_rfl)) (fun _ _ _ h=>h) (Or.inl ⟨by rfl, ?_⟩) ?_ ?_
        rotate_left
        ·intro w'
         go_simp
         with_reducible rfl
        rotate_left
        ·simp only [Act.put,List.setIfInBounds_toArray,List.set_cons_zero,List.set_cons_succ,i64_w,i32_w]
         rfl
        refine pure_ (i:=2) (N:=some 14) (v:= ?_) (a':= ?_) #[true,true,true,false,false,false,false,false,false,false] rfl rfl (any_of HT_.out (by kernel_rfl)) (fun _ _ _ h=>h) (Or.inl ⟨by rfl, ?_⟩) ?_ ?_
        rotate_left
        ·intro w'
         go_simp
         with_reducible rfl
        rotate_left
        ·simp only [Act.put,List.setIfInBounds_toArray,List.set_cons_zero,List.set_cons_succ,i64_w,i32_w]
         rfl
        refine pure_ (i:=4) (N:=some 16) (v:= ?_) (a':= ?_) #[true,true,true,false,true,false,false,false,false,false] rfl rfl (any_of HT_.out (by kernel_rfl)) (fun _ _ _ h=>h) (Or.inl ⟨by rfl, ?_⟩) ?_ ?_
        rotate_left
        ·intro w'
         go_simp
         with_reducible rfl
        rotate_left
        ·simp only [Act.put,List.setIfInBounds_toArray,List.set_cons_zero,List.set_cons_succ,i64_w,i32_w]
         rfl
        refine take_ (i:=3) (N:=some 15) (v:= ?_) (a':= ?_) #[true,true,true,true,true,false,false,false,false,false] rfl rfl (take_ofW HT_.out HW_.out (by kernel_rfl)) (fun _ _ _ h=>h) (Or.inl ⟨by rfl, ?_⟩) hHeld ?_ ?_
        rotate_left
        ·rintro w' ⟨s0,s1,s2,s3,s4⟩
         go_simp
         with_reducible rfl
        rotate_left
        ·simp only [Act.put,List.setIfInBounds_toArray,List.set_cons_zero,List.set_cons_succ,i64_w,i32_w]
         rfl
        refine take_ (i:=5) (N:=some 17) (v:= ?_) (a':= ?_) #[true,true,true,true,true,true,false,false,false,false] rfl rfl (take_ofW HT_.out HW_.out (by kernel_rfl)) (fun _ _ _ h=>h) (Or.inl ⟨by rfl, ?_⟩) hHeld ?_ ?_
        rotate_left
        ·rintro w' ⟨s0,s1,s2,s3,s4⟩
         go_simp
         with_reducible rfl
        rotate_left
        ·simp only [Act.put,List.setIfInBounds_toArray,List.set_cons_zero,List.set_cons_succ,i64_w,i32_w]
         rfl
        refine pure_ (i:=6) (N:=some 18) (v:= ?_) (a':= ?_) #[true,true,true,true,true,true,true,false,false,false] rfl rfl (any_of HT_.out (by kernel_rfl)) (fun _ _ _ h=>h) (Or.inl ⟨by rfl, ?_⟩) ?_ ?_
        rotate_left
        ·intro w'
         go_simp
         with_reducible rfl
        rotate_left
        ·simp only [Act.put,List.setIfInBounds_toArray,List.set_cons_zero,List.set_cons_succ,i64_w,i32_w]
         rfl
        refine pure_ (i:=7) (N:=some 19) (v:= ?_) (a':= ?_) #[true,true,true,true,true,true,true,true,false,false] rfl rfl (any_of HT_.out (by kernel_rfl)) (fun _ _ _ h=>h) (Or.inl ⟨by rfl, ?_⟩) ?_ ?_
        rotate_left
        ·intro w'
         go_simp
         with_reducible rfl
        rotate_left
        ·simp only [Act.put,List.setIfInBounds_toArray,List.set_cons_zero,List.set_cons_succ,i64_w,i32_w]
         rfl
        refine one_ (i:=8) (N:=some 20) #[true,true,true,true,true,true,true,true,true,false] rfl rfl (one_of HT_.out (by kernel_rfl)) (by decide) (fun K hK=> ?_)
        refine goes_ Try.func87 (by kernel_rfl) rfl #[.int .i64 (rd l1 x5_1), .int .i64 0, .int .i64 (wrap64 ((x342003_1.length:Int) - 1))] (by rfl) rfl rfl (by (try simp only [List.map_toArray,List.map_cons,List.map_nil]);first|done|rfl|(simp only [List.length_drop,List.length_take];rfl)) ?_
        with_reducible refine (spec_l01Between.calls (rd l1 x5_1) 0 (wrap64 ((x342003_1.length:Int) - 1)) true _ A6.out).mono ?_
        rintro e w' ⟨rfl,⟨nd,rfl⟩⟩
        refine ⟨_,rfl, ?_⟩
        refine hK.out _ _ ⟨(blk_cell BK341.out 0).trans rfl,(blk_cell BK341.out 1).trans rfl,(blk_cell BK341.out 2).trans rfl,(blk_cell BK341.out 3).trans rfl,((HB.out.cell (World.block_lt_of_cell? w _ hw342_0)).trans hw342_0)⟩ (fun hHeld=> ?_)
        clear hK K
        refine norm_ (a':= ?_) ?_ ?_
        rotate_left
        ·show Act.put _ (some 20) _=_
         simp only [Act.put,List.setIfInBounds_toArray,List.set_cons_zero,List.set_cons_succ,i64_w,i32_w]
         rfl
        refine pure_ (i:=9) (N:=some 21) (v:= ?_) (a':= ?_) #[true,true,true,true,true,true,true,true,true,true] rfl rfl (any_of HT_.out (by kernel_rfl)) (fun _ _ _ h=>h) (Or.inl ⟨by rfl, ?_⟩) ?_ ?_
        rotate_left
        ·intro w'
         go_simp
         with_reducible rfl
        rotate_left
        ·simp only [Act.put,List.setIfInBounds_toArray,List.set_cons_zero,List.set_cons_succ,i64_w,i32_w]
         rfl
        refine done_ (done_of HT_.out (by kernel_rfl)) ?_
        try go_wp2
        (try (rw [drewN_self w10];generalize hq_:World.drewN w10 _=w10;have n0_:Aside0 (Kd.V k26 26 w10 w.heap.size (fun k_=>(P0_3_ k_∨w.heap.size≤k_)∧k_≠gb341) (.slice Ao11 x342003_1.length co11) x342003_1):=⟨by rw [← hq_];exact HO_342003.out⟩;have n1_:Aside0 (w10.heap[gb341]?= some (.cells #[.string x342000_1, .string x342001_1, .bool x342002_1, .slice Ao11 x342003_1.length co11] 26 (0,0))):=⟨by rw [← hq_];exact BK341.out⟩;have n2_:Aside0 (Below w.heap.size w w10):=⟨by rw [← hq_];exact (by repeat (first|(with_reducible first|exact HB.out|apply below_alloc|apply pw_below_drewN|apply below_drew1|refine below_set ?_ GE341.out)|exact HB.out))⟩;clear HO_342003 BK341 HB hq_;have HO_342003:=n0_;have BK341:=n1_;have HB:=n2_;clear n0_ n1_ n2_))
        have n0_:=A0_ (Kd.V_drew HO_342003.out)
        have n1_:=A0_ (blk_drew BK341.out)
        have n2_:=A0_ (below_drew1 HB.out)
        clear HO_342003
        clear BK341
        clear HB
        have HO_342003:=n0_
        have BK341:=n1_
        have HB:=n2_
        clear n0_ n1_ n2_
        have p344:0≤(x5_1:Int):=of_decide_eq_true (by first|(with_reducible assumption)|assumption)
        have q344:x5_1 < (l1.length:Int):=of_decide_eq_true (by first|(with_reducible assumption)|assumption)
        obtain ⟨ad344,e344,hx344_0⟩:=Kd.at_int HR1.out x5_1 p344 q344
        have hw344_0:=hx344_0
        obtain rfl:ad342=ad344:=(by injection e344)
        replace hx344_0:=(HB.out.cell (World.block_lt_of_cell? w _ hx344_0)).trans hx344_0
        replace p344:=eq_true p344
        replace q344:=eq_true q344
        have p345:0≤((rd l1 x5_1):Int):=of_decide_eq_true (by first|(with_reducible assumption)|assumption)
        have q345:(rd l1 x5_1) < (x342003_1.length:Int):=of_decide_eq_true (by first|(with_reducible assumption)|assumption)
        obtain ⟨ad345,A345_3,c345_3,e345,hx345_0,hx345_1,hx345_2,hx345_3,hl345_3,hi345_3⟩:=at_T26 (Kd.V_reads' HO_342003.out).2.2 (rd l1 x5_1) p345 q345
        cases e345
        obtain ⟨ce345,hce345,hMe345,hcc345⟩:=Kd.V_get HO_342003.out z26 (rd l1 x5_1) p345 (by first|exact q345|exact of_decide_eq_true (by first|(with_reducible assumption)|assumption)|(have e_:=(Kd.V_reads' HO_342003.out).1;omega))
        obtain ⟨ua345_3,uc345_3,rfl,ul345_3,ge345_3⟩:=k26_openF hMe345
        have hv345_3:=hcc345 3 _ rfl
        rw [add_field _ _ 3 (by omega)] at hv345_3
        replace hv345_3:=Option.some.inj (hv345_3.symm.trans hx345_3)
        injection hv345_3 with hva_ hvn_ hvc_
        rw [hva_] at ge345_3
        rw [hvc_] at ul345_3
        have HL345_3:=A0_ (show Kd.V k26 26 _ w.heap.size _ _ ((rd_T26 x342003_1 (rd l1 x5_1)).f3) from Kd.V_mk ul345_3 ge345_3)
        clear hva_ hvn_ hvc_ ge345_3 ul345_3
        clear hcc345 hce345
        have HR345_3:=A0_ hi345_3
        have HC345_3:=A0_ hl345_3
        clear hi345_3 hl345_3
        replace p345:=eq_true p345
        replace q345:=eq_true q345
        refine start_ (n:=9) (S:=fun w'=>w'.cell? ⟨gb341,0,none⟩=some (.string x342000_1)∧w'.cell? ⟨gb341,1,none⟩=some (.string x342001_1)∧w'.cell? ⟨gb341,2,none⟩=some (.bool x342002_1)∧w'.cell? ⟨gb341,3,none⟩=some (.slice (some ad345) x342003_1.length co11)∧w'.cell? (ad342.add (x5_1).toNat)=some (.int .i64 (rd l1 x5_1))∧w'.cell? (ad345.add (((rd l1 x5_1)).toNat * 4))=some (.string ((rd_T26 x342003_1 (rd l1 x5_1)).f0))∧w'.cell? ⟨(ad345.add (((rd l1 x5_1)).toNat * 4)).block,(ad345.add (((rd l1 x5_1)).toNat * 4)).off + 1,none⟩=some (.string ((rd_T26 x342003_1 (rd l1 x5_1)).f1))∧w'.cell? ⟨(ad345.add (((rd l1 x5_1)).toNat * 4)).block,(ad345.add (((rd l1 x5_1)).toNat * 4)).off + 2,none⟩=some (.bool ((rd_T26 x342003_1 (rd l1 x5_1)).f2))∧w'.cell? ⟨(ad345.add (((rd l1 x5_1)).toNat * 4)).block,(ad345.add (((rd l1 x5_1)).toNat * 4)).off + 3,none⟩=some (.slice A345_3 ((rd_T26 x342003_1 (rd l1 x5_1)).f3).length c345_3)) (ds:= [8]) #[false,false,false,false,false,false,false,false,false] (by kernel_rfl) rfl rfl ⟨(blk_cell BK341.out 0).trans rfl,(blk_cell BK341.out 1).trans rfl,(blk_cell BK341.out 2).trans rfl,(blk_cell BK341.out 3).trans rfl,((HB.out.cell (World.block_lt_of_cell? w _ hw344_0)).trans hw344_0),hx345_0,hx345_1,hx345_2,hx345_3⟩ (fun hHeld=> ?_);refine with_tabW spec_l01Leads.tab6 spec_l01Leads.bits6 (fun HT_ HW_=> ?_)
        generalize w10.drew=w12 at HO_342003 BK341 HB HL345_3 HR345_3 hx344_0 hx345_0 hx345_1 hx345_2 hx345_3 hHeld ⊢
        refine pure_ (i:=0) (N:=some 22) (v:= ?_) (a':= ?_) #[true,false,false,false,false,false,false,false,false] rfl rfl (any_of HT_.out (by kernel_rfl)) (fun _ _ _ h=>h) (Or.inl ⟨by rfl, ?_⟩) ?_ ?_
        rotate_left
        ·intro w'
         go_simp
         with_reducible rfl
        rotate_left
        ·simp only [Act.put,List.setIfInBounds_toArray,List.set_cons_zero,List.set_cons_succ,i64_w,i32_w]
         rfl
        refine pure_ (i:=2) (N:=some 24) (v:= ?_) (a':= ?_) #[true,false,true,false,false,false,false,false,false] rfl rfl (any_of HT_.out (by kernel_rfl)) (fun _ _ _ h=>h) (Or.inl ⟨by rfl, ?_⟩) ?_ ?_
        rotate_left
        ·intro w'
         go_simp
         with_reducible rfl
        rotate_left
        ·simp only [Act.put,List.setIfInBounds_toArray,List.set_cons_zero,List.set_cons_succ,i64_w,i32_w]
         rfl
        refine pure_ (i:=3) (N:=some 25) (v:= ?_) (a':= ?_) #[true,false,true,true,false,false,false,false,false] rfl rfl (any_of HT_.out (by kernel_rfl)) (fun _ _ _ h=>h) (Or.inl ⟨by rfl, ?_⟩) ?_ ?_
        rotate_left
        ·intro w'
         go_simp
         with_reducible rfl
        rotate_left
        ·simp only [Act.put,List.setIfInBounds_toArray,List.set_cons_zero,List.set_cons_succ,i64_w,i32_w]
         rfl
        refine pure_ (i:=4) (N:=some 26) (v:= ?_) (a':= ?_) #[true,false,true,true,true,false,false,false,false] rfl rfl (any_of HT_.out (by kernel_rfl)) (fun _ _ _ h=>h) (Or.inl ⟨by rfl, ?_⟩) ?_ ?_
        rotate_left
        ·intro w'
         go_simp
         with_reducible rfl
        rotate_left
        ·simp only [Act.put,List.setIfInBounds_toArray,List.set_cons_zero,List.set_cons_succ,i64_w,i32_w]
         rfl
        refine take_ (i:=1) (N:=some 23) (v:= ?_) (a':= ?_) #[true,true,true,true,true,false,false,false,false] rfl rfl (take_ofW HT_.out HW_.out (by kernel_rfl)) (fun _ _ _ h=>h) (Or.inl ⟨by rfl, ?_⟩) hHeld ?_ ?_
        rotate_left
        ·rintro w' ⟨s0,s1,s2,s3,s4,s5,s6,s7,s8⟩
         go_simp
         with_reducible rfl
        rotate_left
        ·simp only [Act.put,List.setIfInBounds_toArray,List.set_cons_zero,List.set_cons_succ,i64_w,i32_w]
         rfl
        refine take_ (i:=5) (N:=some 27) (v:= ?_) (a':= ?_) #[true,true,true,true,true,true,false,false,false] rfl rfl (take_ofW HT_.out HW_.out (by kernel_rfl)) (fun _ _ _ h=>h) (Or.inl ⟨by rfl, ?_⟩) hHeld ?_ ?_
        rotate_left
        ·rintro w' ⟨s0,s1,s2,s3,s4,s5,s6,s7,s8⟩
         go_simp
         with_reducible rfl
        rotate_left
        ·simp only [Act.put,List.setIfInBounds_toArray,List.set_cons_zero,List.set_cons_succ,i64_w,i32_w]
         rfl
        refine pure_ (i:=6) (N:=some 28) (v:= ?_) (a':= ?_) #[true,true,true,true,true,true,true,false,false] rfl rfl (any_of HT_.out (by kernel_rfl)) (fun _ _ _ h=>h) (Or.inl ⟨by rfl, ?_⟩) ?_ ?_
        rotate_left
        ·intro w'
         go_simp
         with_reducible rfl
        rotate_left
        ·simp only [Act.put,List.setIfInBounds_toArray,List.set_cons_zero,List.set_cons_succ,i64_w,i32_w]
         rfl
        refine take_ (i:=7) (N:=some 29) (v:= ?_) (a':= ?_) #[true,true,true,true,true,true,true,true,false] rfl rfl (take_ofW HT_.out HW_.out (by kernel_rfl)) (fun _ _ _ h=>h) (Or.inl ⟨by rfl, ?_⟩) hHeld ?_ ?_
        rotate_left
        ·rintro w' ⟨s0,s1,s2,s3,s4,s5,s6,s7,s8⟩
         go_simp
         with_reducible rfl
        rotate_left
        ·simp only [Act.put,List.setIfInBounds_toArray,List.set_cons_zero,List.set_cons_succ,i64_w,i32_w]
         rfl
        refine last_ (i:=8) (N:=none) #[true,true,true,true,true,true,true,true,true] rfl rfl (one_of HT_.out (by kernel_rfl)) (by decide) (fun K hK=> ?_)
        have hs13:w12.cell? ⟨gb341,0,none⟩=some (.string x342000_1):=(blk_cell BK341.out 0).trans rfl
        have hfs13:=blk_frozen BK341.out 0
        have hs14:w12.cell? ⟨gb341,1,none⟩=some (.string x342001_1):=(blk_cell BK341.out 1).trans rfl
        have hfs14:=blk_frozen BK341.out 1
        have hs15:w12.cell? ⟨gb341,2,none⟩=some (.bool x342002_1):=(blk_cell BK341.out 2).trans rfl
        have hfs15:=blk_frozen BK341.out 2
        have hs16:w12.cell? ⟨gb341,3,none⟩=some (.slice (some ad345) x342003_1.length co11):=(blk_cell BK341.out 3).trans rfl
        have hfs16:=blk_frozen BK341.out 3
        refine skip_ (w1:= ?_) (by rfl) rfl ?_ ?_
        rotate_left
        ·go_simp
         rfl
        refine hK.out _ _ ?_
        clear hK K
        refine done_ (done_of HT_.out (by kernel_rfl)) ?_
        try go_wp2
        go_roundg k1
        case measure=>have:=HK1.out;omega
        case rel=>exact ⟨(wrap64 (x5_1 + 1)),((rd_T26 x342003_1 (rd l1 x5_1)).f0),((rd_T26 x342003_1 (rd l1 x5_1)).f1),((rd_T26 x342003_1 (rd l1 x5_1)).f2),((rd_T26 x342003_1 (rd l1 x5_1)).f3),(.slice A345_3 ((rd_T26 x342003_1 (rd l1 x5_1)).f3).length c345_3),(by first|rfl|(simp;done)|(simp [*];done)|(simp [bne];done)|(simp [bne, *];done)),H',⟨by have:=HK1.out;omega⟩,⟨by (with_reducible repeat (first|apply Kd.V_alloc|apply Kd.V_drewN|apply Kd.V_drew));exact Kd.V_mono (Kd.V_far (p:=⟨gb341,3,none⟩) (Kd.V_far (p:=⟨gb341,2,none⟩) (Kd.V_far (p:=⟨gb341,1,none⟩) (Kd.V_far (p:=⟨gb341,0,none⟩) (Kd.V_mono HL345_3.out (fun k_ hk=>(⟨hk,hk.2⟩:_∧k_≠gb341))) (fun _ hk=>hk.2) (.string ((rd_T26 x342003_1 (rd l1 x5_1)).f0))) (fun _ hk=>hk.2) (.string ((rd_T26 x342003_1 (rd l1 x5_1)).f1))) (fun _ hk=>hk.2) (.bool ((rd_T26 x342003_1 (rd l1 x5_1)).f2))) (fun _ hk=>hk.2) (.slice A345_3 ((rd_T26 x342003_1 (rd l1 x5_1)).f3).length c345_3)) (fun _ hk=>⟨hk.1.1,hk.1.2⟩)⟩,⟨by (with_reducible repeat (first|refine blk_drewN ?_ _|refine blk_drew ?_|refine blk_alloc ?_ _));refine blk_put (cs:= #[.string ((rd_T26 x342003_1 (rd l1 x5_1)).f0), .string ((rd_T26 x342003_1 (rd l1 x5_1)).f1), .bool ((rd_T26 x342003_1 (rd l1 x5_1)).f2), .slice (some ad345) x342003_1.length co11]) ?_ 3 _ rfl;(with_reducible repeat (first|refine blk_drewN ?_ _|refine blk_drew ?_|refine blk_alloc ?_ _));refine blk_put (cs:= #[.string ((rd_T26 x342003_1 (rd l1 x5_1)).f0), .string ((rd_T26 x342003_1 (rd l1 x5_1)).f1), .bool x342002_1, .slice (some ad345) x342003_1.length co11]) ?_ 2 _ rfl;(with_reducible repeat (first|refine blk_drewN ?_ _|refine blk_drew ?_|refine blk_alloc ?_ _));refine blk_put (cs:= #[.string ((rd_T26 x342003_1 (rd l1 x5_1)).f0), .string x342001_1, .bool x342002_1, .slice (some ad345) x342003_1.length co11]) ?_ 1 _ rfl;(with_reducible repeat (first|refine blk_drewN ?_ _|refine blk_drew ?_|refine blk_alloc ?_ _));refine blk_put (cs:= #[.string x342000_1, .string x342001_1, .bool x342002_1, .slice (some ad345) x342003_1.length co11]) ?_ 0 _ rfl;(with_reducible repeat (first|refine blk_drewN ?_ _|refine blk_drew ?_|refine blk_alloc ?_ _));exact BK341.out⟩,⟨by repeat (first|(with_reducible first|exact HB.out|apply below_alloc|apply pw_below_drewN|apply below_drew1|refine below_set ?_ GE341.out)|exact HB.out)⟩⟩
       ·rw [if_neg c9] at H
        exact absurd H (by simp)
      ·rw [if_neg c8] at H
       exact absurd H (by simp)
     ·replace c7:=Bool.eq_false_iff.mpr c7
      subst c7
      have H1:(some false)=some r:=by rw [if_neg (show ¬ (false=true) by decide)] at H;exact H
      clear H
      have H:=H1
      clear H1
      obtain rfl:=Option.some.inj H
      try go_wp2
      have n0_:=A0_ (Kd.V_drew HO_342003.out)
      have n1_:=A0_ (blk_drew BK341.out)
      have n2_:=A0_ (below_drew1 HB.out)
      clear HO_342003
      clear BK341
      clear HB
      have HO_342003:=n0_
      have BK341:=n1_
      have HB:=n2_
      clear n0_ n1_ n2_
      have p342:0≤(x5_1:Int):=of_decide_eq_true (by first|(with_reducible assumption)|assumption)
      have q342:x5_1 < (l1.length:Int):=of_decide_eq_true (by first|(with_reducible assumption)|assumption)
      obtain ⟨ad342,e342,hx342_0⟩:=Kd.at_int HR1.out x5_1 p342 q342
      have hw342_0:=hx342_0
      cases e342
      replace hx342_0:=(HB.out.cell (World.block_lt_of_cell? w _ hx342_0)).trans hx342_0
      replace p342:=eq_true p342
      replace q342:=eq_true q342
      obtain ⟨Ao18,co18,eo18⟩:=Kd.V_slice HO_342003.out
      (first|subst eo18|(injection eo18 with f1_ f2_ f3_;have f4_:=f1_.symm;have f5_:=f3_.symm;clear f1_ f2_ f3_;subst f4_;subst f5_))
      refine start_ (n:=10) (S:=fun w'=>w'.cell? ⟨gb341,0,none⟩=some (.string x342000_1)∧w'.cell? ⟨gb341,1,none⟩=some (.string x342001_1)∧w'.cell? ⟨gb341,2,none⟩=some (.bool x342002_1)∧w'.cell? ⟨gb341,3,none⟩=some (.slice Ao18 x342003_1.length co18)∧w'.cell? (ad342.add (x5_1).toNat)=some (.int .i64 (rd l1 x5_1))) (ds:= []) #[false,false,false,false,false,false,false,false,false,false] (by kernel_rfl) rfl rfl ⟨(blk_cell BK341.out 0).trans rfl,(blk_cell BK341.out 1).trans rfl,(blk_cell BK341.out 2).trans rfl,(blk_cell BK341.out 3).trans rfl,((HB.out.cell (World.block_lt_of_cell? w _ hw342_0)).trans hw342_0)⟩ (fun hHeld=> ?_);refine with_tabW spec_l01Leads.tab4 spec_l01Leads.bits4 (fun HT_ HW_=> ?_)
      generalize wr.drew=w17 at HO_342003 BK341 HB hx342_0 hHeld ⊢
      refine pure_ (i:=0) (N:=some 12) (v:= ?_) (a':= ?_) #[true,false,false,false,false,false,false,false,false,false] rfl rfl (any_of HT_.out (by kernel_rfl)) (fun _ _ _ h=>h) (Or.inl ⟨by rfl, ?_⟩) ?_ ?_
      rotate_left
      ·intro w'
       go_simp
       with_reducible rfl
      rotate_left
      ·simp only [Act.put,List.setIfInBounds_toArray,List.set_cons_zero,List.set_cons_succ,i64_w,i32_w]
       rfl
      refine pure_ (i:=1) (N:=some 13) (v:= ?_) (a':= ?_) #[true,true,false,false,false,false,false,false,false,false] rfl rfl (any_of HT_.out (by kernel_rfl)) (fun _ _ _ h=>h) (Or.inl ⟨by rfl, ?_⟩) ?_ ?_
      rotate_left
      ·intro w'
       go_simp
       with_reducible rfl
      rotate_left
      ·simp only [Act.put,List.setIfInBounds_toArray,List.set_cons_zero,List.set_cons_succ,i64_w,i32_w]
       rfl
      refine pure_ (i:=2) (N:=some 14) (v:= ?_) (a':= ?_) #[true,true,true,false,false,false,false,false,false,false] rfl rfl (any_of HT_.out (by kernel_rfl)) (fun _ _ _ h=>h) (Or.inl ⟨by rfl, ?_⟩) ?_ ?_
      rotate_left
      ·intro w'
       go_simp
       with_reducible rfl
      rotate_left
      ·simp only [Act.put,List.setIfInBounds_toArray,List.set_cons_zero,List.set_cons_succ,i64_w,i32_w]
       rfl
      refine pure_ (i:=4) (N:=some 16) (v:= ?_) (a':= ?_) #[true,true,true,false,true,false,false,false,false,false] rfl rfl (any_of HT_.out (by kernel_rfl)) (fun _ _ _ h=>h) (Or.inl ⟨by rfl, ?_⟩) ?_ ?_
      rotate_left
      ·intro w'
       go_simp
       with_reducible rfl
      rotate_left
      ·simp only [Act.put,List.setIfInBounds_toArray,List.set_cons_zero,List.set_cons_succ,i64_w,i32_w]
       rfl
      refine take_ (i:=3) (N:=some 15) (v:= ?_) (a':= ?_) #[true,true,true,true,true,false,false,false,false,false] rfl rfl (take_ofW HT_.out HW_.out (by kernel_rfl)) (fun _ _ _ h=>h) (Or.inl ⟨by rfl, ?_⟩) hHeld ?_ ?_
      rotate_left
      ·rintro w' ⟨s0,s1,s2,s3,s4⟩
       go_simp
       with_reducible rfl
      rotate_left
      ·simp only [Act.put,List.setIfInBounds_toArray,List.set_cons_zero,List.set_cons_succ,i64_w,i32_w]
       rfl
      refine take_ (i:=5) (N:=some 17) (v:= ?_) (a':= ?_) #[true,true,true,true,true,true,false,false,false,false] rfl rfl (take_ofW HT_.out HW_.out (by kernel_rfl)) (fun _ _ _ h=>h) (Or.inl ⟨by rfl, ?_⟩) hHeld ?_ ?_
      rotate_left
      ·rintro w' ⟨s0,s1,s2,s3,s4⟩
       go_simp
       with_reducible rfl
      rotate_left
      ·simp only [Act.put,List.setIfInBounds_toArray,List.set_cons_zero,List.set_cons_succ,i64_w,i32_w]
       rfl
      refine pure_ (i:=6) (N:=some 18) (v:= ?_) (a':= ?_) #[true,true,true,true,true,true,true,false,false,false] rfl rfl (any_of HT_.out (by kernel_rfl)) (fun _ _ _ h=>h) (Or.inl ⟨by rfl, ?_⟩) ?_ ?_
      rotate_left
      ·intro w'
       go_simp
       with_reducible rfl
      rotate_left
      ·simp only [Act.put,List.setIfInBounds_toArray,List.set_cons_zero,List.set_cons_succ,i64_w,i32_w]
       rfl
      refine pure_ (i:=7) (N:=some 19) (v:= ?_) (a':= ?_) #[true,true,true,true,true,true,true,true,false,false] rfl rfl (any_of HT_.out (by kernel_rfl)) (fun _ _ _ h=>h) (Or.inl ⟨by rfl, ?_⟩) ?_ ?_
      rotate_left
      ·intro w'
       go_simp
       with_reducible rfl
      rotate_left
      ·simp only [Act.put,List.setIfInBounds_toArray,List.set_cons_zero,List.set_cons_succ,i64_w,i32_w]
       rfl
      refine one_ (i:=8) (N:=some 20) #[true,true,true,true,true,true,true,true,true,false] rfl rfl (one_of HT_.out (by kernel_rfl)) (by decide) (fun K hK=> ?_)
      refine goes_ Try.func87 (by kernel_rfl) rfl #[.int .i64 (rd l1 x5_1), .int .i64 0, .int .i64 (wrap64 ((x342003_1.length:Int) - 1))] (by rfl) rfl rfl (by (try simp only [List.map_toArray,List.map_cons,List.map_nil]);first|done|rfl|(simp only [List.length_drop,List.length_take];rfl)) ?_
      with_reducible refine (spec_l01Between.calls (rd l1 x5_1) 0 (wrap64 ((x342003_1.length:Int) - 1)) false _ A6.out).mono ?_
      rintro e w' ⟨rfl,⟨nd,rfl⟩⟩
      refine ⟨_,rfl, ?_⟩
      refine hK.out _ _ ⟨(blk_cell BK341.out 0).trans rfl,(blk_cell BK341.out 1).trans rfl,(blk_cell BK341.out 2).trans rfl,(blk_cell BK341.out 3).trans rfl,((HB.out.cell (World.block_lt_of_cell? w _ hw342_0)).trans hw342_0)⟩ (fun hHeld=> ?_)
      clear hK K
      refine norm_ (a':= ?_) ?_ ?_
      rotate_left
      ·show Act.put _ (some 20) _=_
       simp only [Act.put,List.setIfInBounds_toArray,List.set_cons_zero,List.set_cons_succ,i64_w,i32_w]
       rfl
      refine pure_ (i:=9) (N:=some 21) (v:= ?_) (a':= ?_) #[true,true,true,true,true,true,true,true,true,true] rfl rfl (any_of HT_.out (by kernel_rfl)) (fun _ _ _ h=>h) (Or.inl ⟨by rfl, ?_⟩) ?_ ?_
      rotate_left
      ·intro w'
       go_simp
       with_reducible rfl
      rotate_left
      ·simp only [Act.put,List.setIfInBounds_toArray,List.set_cons_zero,List.set_cons_succ,i64_w,i32_w]
       rfl
      refine done_ (done_of HT_.out (by kernel_rfl)) ?_
      try go_wp2
      go_ret
      exact ⟨by first|rfl|(simp [errW_none,errW_some] <;> rfl)|(simp [*,errW_none,errW_some] <;> rfl),by repeat (first|(with_reducible first|exact HB.out|apply below_alloc|apply pw_below_drewN|apply below_drew1|refine below_set ?_ GE341.out)|exact HB.out)⟩
    ·rw [if_neg c5] at H
     exact absurd H (by simp)
   ·rw [if_neg c4] at H
    have c4b0:decide (x5_1 < (l1.length:Int))=false:=decide_eq_false c4
    clear c4
    obtain rfl:=Option.some.inj H
    go_wp2
    go_ret
    exact ⟨by first|rfl|(simp [errW_none,errW_some] <;> rfl)|(simp [*,errW_none,errW_some] <;> rfl),by repeat (first|(with_reducible first|exact HB.out|apply below_alloc|apply pw_below_drewN|apply below_drew1|refine below_set ?_ GE341.out)|exact HB.out)⟩
end Go.Proofs.Ytakpkmkjhndpjaa.Q
end
section
namespace Go.Proofs.Ytakpkmkjhndpjaa.Q
open Go.RowKit Go.Proofs.YtakpkmkjhndpjaaW.PrintWords Go.Proofs.YtakpkmkjhndpjaaW.PrintLast Go.Proofs.YtakpkmkjhndpjaaW.PrintMore
attribute [local go_sem] max2_int min2_int max_two min_two max_three min_three max_four min_four
set_option linter.unusedVariables false
set_option linter.unusedSimpArgs false
def spec_l01Put.f:Nat→ByteArray→ByteArray→Bool→List (S26)→List Int→ByteArray→ByteArray→Bool→List (S26)→Option (ByteArray × ByteArray × Bool × (List (S26)))
 |0,_,_,_,_,_,_,_,_,_=>none
 |k + 1,a0_0,a0_1,a0_2,l0_3,l1,a2_0,a2_1,a2_2,l2_3=>if (l1.length:Int)=0 then (some (a2_0,a2_1,a2_2,l2_3)) else ((some (([]:List (S26)):List (S26))).bind fun y349=>(if y349.length + l0_3.length < 2199023255552 then ((some (y349 ++ l0_3:List (S26))).bind fun y352=>(if 0 < (l1.length:Int) then (if 0≤(rd l1 0) then (if (rd l1 0) < (y352.length:Int) then (if 1≤(l1.length:Int) then ((spec_l01Put.f k ((rd_T26 y352 (rd l1 0)).f0) ((rd_T26 y352 (rd l1 0)).f1) ((rd_T26 y352 (rd l1 0)).f2) ((rd_T26 y352 (rd l1 0)).f3) (l1.drop 1) a2_0 a2_1 a2_2 l2_3).bind fun bt359=>(some (a0_0,a0_1,a0_2,(y352.set ((rd l1 0):Int).toNat (⟨bt359.1,bt359.2.1,bt359.2.2.1,bt359.2.2.2⟩:S26))))) else (none)) else (none)) else (none)) else (none))) else (none)))
def spec_l01Put.T4:Bool × List (List Nat × List Nat):=(true, [([], []),([0], [0]),([], []),([2], [2]),([3], [3]),([], []),([5], [5]),([], []),([7], [7]),([8], [8]),([6,9], [6,9]),([10], [10]),([], []),([12], [12]),([], []),([11,13,14], [11,13,14]),([1,4,0,1,2,3,4,5,6,7,8,9,10,11,12,13,14,15], [1,4]),([16,15,15,0,1,2,3,4,5,6,7,8,9,10,11,12,13,14,15], [15,16])])
def spec_l01Put.B4:List Nat:= [0,1,0,4,12,0,32,0,128,384,992,2016,0,4096,0,32736,65535,131071]
theorem spec_l01Put.tab4:rtab .any (opsOf Try.f43 4)=spec_l01Put.T4:=by kernel_rfl
theorem spec_l01Put.bits4:waitsOk spec_l01Put.T4.2 spec_l01Put.B4=true:=by kernel_rfl
set_option maxHeartbeats 8000000 in
set_option maxRecDepth 100000 in
theorem spec_l01Put.calls (k:Nat): ∀ (a0_0:ByteArray) (a0_1:ByteArray) (a0_2:Bool) (P0_3_:Nat→Prop) (A0_3:Option Addr) (c0_3:Nat) (l0_3:List (S26)) (A1:Option Addr) (c1:Nat) (l1:List Int) (a2_0:ByteArray) (a2_1:ByteArray) (a2_2:Bool) (P2_3_:Nat→Prop) (A2_3:Option Addr) (c2_3:Nat) (l2_3:List (S26)) (r1:ByteArray) (r2:ByteArray) (r3:Bool) (r4:List (S26)) (w:World) (hs0_3:Kd.V k26 26 w w.heap.size (fun k_=>P0_3_ k_) (.slice A0_3 l0_3.length c0_3) l0_3) (hr1:Kd.C (Kd.int .i64) w A1 l1.length l1) (hc1:l1.length≤c1) (hs2_3:Kd.V k26 26 w w.heap.size (fun k_=>P2_3_ k_) (.slice A2_3 l2_3.length c2_3) l2_3) (h:spec_l01Put.f k a0_0 a0_1 a0_2 l0_3 l1 a2_0 a2_1 a2_2 l2_3=some (r1,r2,r3,r4)),
  Calls Try.prog 43 #[.agg #[.string a0_0, .string a0_1, .bool a0_2, .slice A0_3 l0_3.length c0_3], .slice A1 l1.length c1, .agg #[.string a2_0, .string a2_1, .bool a2_2, .slice A2_3 l2_3.length c2_3]] w fun e w'=> ∃ v3_:Value,e= .returned (.agg #[.string r1, .string r2, .bool r3,v3_])∧Kd.V k26 26 w' w.heap.size (fun k_=>((P0_3_ k_∨P2_3_ k_)∨w.heap.size≤k_)) v3_ r4∧Below w.heap.size w w':=by
 induction k using Nat.strongRecOn with
 |_ k ih=>
 intro a0_0 a0_1 a0_2 P0_3_ A0_3 c0_3 l0_3 A1 c1 l1 a2_0 a2_1 a2_2 P2_3_ A2_3 c2_3 l2_3 r1 r2 r3 r4 w hs0_3 hr1 hc1 hs2_3 h
 cases k with
 |zero=>exact absurd h (by simp [spec_l01Put.f])
 |succ k=>
 simp only [spec_l01Put.f] at h
 have hu26:=Try.underlying26
 have HO0_3:=A0_ (show Kd.V k26 26 w w.heap.size (fun k_=>((P0_3_ k_∨P2_3_ k_)∨w.heap.size≤k_)) (.slice A0_3 l0_3.length c0_3) l0_3 from Kd.V_mono hs0_3 (fun k_ hk=> .inl (.inl hk)))
 have HR1:=A0_ hr1
 have HC1:=A0_ hc1
 clear hr1 hc1
 have HO2_3:=A0_ (show Kd.V k26 26 w w.heap.size (fun k_=>((P0_3_ k_∨P2_3_ k_)∨w.heap.size≤k_)) (.slice A2_3 l2_3.length c2_3) l2_3 from Kd.V_mono hs2_3 (fun k_ hk=> .inl (.inr hk)))
 have HB:=A0_ (Below.refl w.heap.size w)
 have H:(if (l1.length:Int)=0 then (some (a2_0,a2_1,a2_2,l2_3)) else ((some (([]:List (S26)):List (S26))).bind fun y349=>(if y349.length + l0_3.length < 2199023255552 then ((some (y349 ++ l0_3:List (S26))).bind fun y352=>(if 0 < (l1.length:Int) then (if 0≤(rd l1 0) then (if (rd l1 0) < (y352.length:Int) then (if 1≤(l1.length:Int) then ((spec_l01Put.f k ((rd_T26 y352 (rd l1 0)).f0) ((rd_T26 y352 (rd l1 0)).f1) ((rd_T26 y352 (rd l1 0)).f2) ((rd_T26 y352 (rd l1 0)).f3) (l1.drop 1) a2_0 a2_1 a2_2 l2_3).bind fun bt359=>(some (a0_0,a0_1,a0_2,(y352.set ((rd l1 0):Int).toNat (⟨bt359.1,bt359.2.1,bt359.2.2.1,bt359.2.2.2⟩:S26))))) else (none)) else (none)) else (none)) else (none))) else (none))))=some (r1,r2,r3,r4):=h
 clear h
 by_cases c4:(l1.length:Int)=0
 ·rw [if_pos c4] at H
  have c4b0:((l1.length:Int) == 0)=true:=beq_iff_eq.mpr c4
  have c4b1:((l1.length:Int) != 0)=false:=bne_eq_false_iff_eq.mpr c4
  clear c4
  simp only [Option.some.injEq,Prod.mk.injEq] at H
  obtain ⟨rfl,rfl,rfl,rfl⟩:=H
  go_enter Try.func43,Try.ntmps43
  go_wp2_with (first|((with_reducible refine gate_dst (N:=3) rfl ?_);refine box_event ?hg (N:=3) ?hd (cs:= #[.string a0_0, .string a0_1, .bool a0_2, .slice A0_3 l0_3.length c0_3]) (t:=26) ?hr ?_;(case hd=>rfl);(case hg=>rfl);(case hr=>first|(go_simp;done)|(go_simp;rfl));intro gb346 hg w5 hbox hb;replace HO0_3:=A0_ (Kd.V_below (Kd.V_elderB HO0_3.out gb346 (Nat.le_of_eq hg.symm)) hb);replace HO2_3:=A0_ (Kd.V_below (Kd.V_elderB HO2_3.out gb346 (Nat.le_of_eq hg.symm)) hb);have BK346:=A0_ (hbox);have GW346:=A0_ ((by rw [hg];exact (below_size HB.out):w.heap.size≤gb346));have GE346:=A0_ ((by rw [hg];exact (below_size HB.out):w.heap.size≤gb346));replace HB:=A0_ (below_step HB.out hb);clear hb hbox hg)|((with_reducible refine gate_dst (N:=5) rfl ?_);refine box_event ?hg (N:=5) ?hd (cs:= #[.string a2_0, .string a2_1, .bool a2_2, .slice A2_3 l2_3.length c2_3]) (t:=26) ?hr ?_;(case hd=>rfl);(case hg=>rfl);(case hr=>first|(go_simp;done)|(go_simp;rfl));intro gb347 hg w6 hbox hb;replace HO0_3:=A0_ (Kd.V_below (Kd.V_elderB HO0_3.out gb347 (Nat.le_of_eq hg.symm)) hb);replace HO2_3:=A0_ (Kd.V_below (Kd.V_elderB HO2_3.out gb347 (Nat.le_of_eq hg.symm)) hb);have BK347:=A0_ (hbox);have GW347:=A0_ ((by rw [hg];exact (below_size HB.out):w.heap.size≤gb347));have GE347:=A0_ ((by rw [hg];exact (below_size HB.out):w.heap.size≤gb347));replace HB:=A0_ (below_step HB.out hb);have NB346_347:=A0_ ((by rw [hg];exact Nat.ne_of_lt (blk_lt BK346.out):gb346≠gb347));have NB347_346:=A0_ ((by rw [hg];exact Nat.ne_of_gt (blk_lt BK346.out):gb347≠gb346));replace BK346:=A0_ (blk_below BK346.out hb);clear hb hbox hg)|((with_reducible refine gate_dst (N:=6) rfl ?_);refine box_event ?hg (N:=6) ?hd (cs:= #[.string (⟨#[]⟩:ByteArray), .string (⟨#[]⟩:ByteArray), .bool false, .slice none 0 0]) (t:=26) ?hr ?_;(case hd=>rfl);(case hg=>rfl);(case hr=>first|(go_simp;done)|(go_simp;rfl));intro gb348 hg w7 hbox hb;replace HO0_3:=A0_ (Kd.V_below (Kd.V_elderB HO0_3.out gb348 (Nat.le_of_eq hg.symm)) hb);replace HO2_3:=A0_ (Kd.V_below (Kd.V_elderB HO2_3.out gb348 (Nat.le_of_eq hg.symm)) hb);have BK348:=A0_ (hbox);have GW348:=A0_ ((by rw [hg];exact (below_size HB.out):w.heap.size≤gb348));have GE348:=A0_ ((by rw [hg];exact (below_size HB.out):w.heap.size≤gb348));replace HB:=A0_ (below_step HB.out hb);have NB346_348:=A0_ ((by rw [hg];exact Nat.ne_of_lt (blk_lt BK346.out):gb346≠gb348));have NB348_346:=A0_ ((by rw [hg];exact Nat.ne_of_gt (blk_lt BK346.out):gb348≠gb346));replace BK346:=A0_ (blk_below BK346.out hb);have NB347_348:=A0_ ((by rw [hg];exact Nat.ne_of_lt (blk_lt BK347.out):gb347≠gb348));have NB348_347:=A0_ ((by rw [hg];exact Nat.ne_of_gt (blk_lt BK347.out):gb348≠gb347));replace BK347:=A0_ (blk_below BK347.out hb);clear hb hbox hg;have hnb8:=NB347_346.out;have hnc8:=NB346_347.out;have hnb9:=NB347_348.out;have hnc9:=NB348_347.out;obtain ⟨hcz10_0,hcz10_1,hcz10_2,hcz10_3⟩:=bc4_ BK347.out;obtain ⟨hfz10_0,hfz10_1,hfz10_2,hfz10_3⟩:=bf4_ BK347.out;have hnb11:=NB348_346.out;have hnc11:=NB346_348.out;obtain ⟨hcz12_0,hcz12_1,hcz12_2,hcz12_3⟩:=bc4_ BK348.out;obtain ⟨hfz12_0,hfz12_1,hfz12_2,hfz12_3⟩:=bf4_ BK348.out))
  refine bodyPost_ret (results_cell_row rfl _ _ gb348 26 #[.string a2_0, .string a2_1, .bool a2_2, .slice A2_3 l2_3.length c2_3] (0,0) _ rfl (by (with_reducible repeat (first|refine blk_drewN ?_ _|refine blk_drew ?_|refine blk_alloc ?_ _));refine blk_put (cs:= #[.string a2_0, .string a2_1, .bool a2_2, .slice none 0 0]) ?_ 3 _ rfl;(with_reducible repeat (first|refine blk_drewN ?_ _|refine blk_drew ?_|refine blk_alloc ?_ _));refine blk_put (cs:= #[.string a2_0, .string a2_1, .bool false, .slice none 0 0]) ?_ 2 _ rfl;(with_reducible repeat (first|refine blk_drewN ?_ _|refine blk_drew ?_|refine blk_alloc ?_ _));refine blk_put (cs:= #[.string a2_0, .string (⟨#[]⟩:ByteArray), .bool false, .slice none 0 0]) ?_ 1 _ rfl;(with_reducible repeat (first|refine blk_drewN ?_ _|refine blk_drew ?_|refine blk_alloc ?_ _));refine blk_put (cs:= #[.string (⟨#[]⟩:ByteArray), .string (⟨#[]⟩:ByteArray), .bool false, .slice none 0 0]) ?_ 0 _ rfl;(with_reducible repeat (first|refine blk_drewN ?_ _|refine blk_drew ?_|refine blk_alloc ?_ _));exact BK348.out) Try.underlying26 rfl (by kernel_rfl)) rfl ?_
  exact ⟨_,by first|rfl|(simp [errW_none,errW_some] <;> rfl)|(simp [*,errW_none,errW_some] <;> rfl),by (with_reducible repeat (first|apply Kd.V_alloc|apply Kd.V_drewN|apply Kd.V_drew));exact Kd.V_mono (Kd.V_far (p:=⟨gb348,3,none⟩) (Kd.V_far (p:=⟨gb348,2,none⟩) (Kd.V_far (p:=⟨gb348,1,none⟩) (Kd.V_far (p:=⟨gb348,0,none⟩) (Kd.V_mono HO2_3.out (fun k_ hk=>(⟨hk,hk.2⟩:_∧k_≠gb348))) (fun _ hk=>hk.2) (.string a2_0)) (fun _ hk=>hk.2) (.string a2_1)) (fun _ hk=>hk.2) (.bool a2_2)) (fun _ hk=>hk.2) (.slice A2_3 l2_3.length c2_3)) (fun _ hk=>hk.1.1.1.1),by repeat (first|(with_reducible first|exact HB.out|apply below_alloc|apply pw_below_drewN|apply below_drew1|refine below_set ?_ GE346.out|refine below_set ?_ GE347.out|refine below_set ?_ GE348.out)|exact HB.out)⟩
 ·rw [if_neg c4] at H
  have c4b0:((l1.length:Int) == 0)=false:=beq_eq_false_iff_ne.mpr c4
  have c4b1:((l1.length:Int) != 0)=true:=bne_iff_ne.mpr c4
  have c4b2: ¬ (l1= []):=fun h_=>c4 (by rw [h_];rfl)
  obtain ⟨y349,hy349⟩: ∃ y_:List (S26),y_=(([]:List (S26))):=⟨_,rfl⟩
  replace H:(if y349.length + l0_3.length < 2199023255552 then ((some (y349 ++ l0_3:List (S26))).bind fun y352=>(if 0 < (l1.length:Int) then (if 0≤(rd l1 0) then (if (rd l1 0) < (y352.length:Int) then (if 1≤(l1.length:Int) then ((spec_l01Put.f k ((rd_T26 y352 (rd l1 0)).f0) ((rd_T26 y352 (rd l1 0)).f1) ((rd_T26 y352 (rd l1 0)).f2) ((rd_T26 y352 (rd l1 0)).f3) (l1.drop 1) a2_0 a2_1 a2_2 l2_3).bind fun bt359=>(some (a0_0,a0_1,a0_2,(y352.set ((rd l1 0):Int).toNat (⟨bt359.1,bt359.2.1,bt359.2.2.1,bt359.2.2.2⟩:S26))))) else (none)) else (none)) else (none)) else (none))) else (none))=some (r1,r2,r3,r4):=by first|(rw [hy349];with_reducible exact H)|(have H2_:=(Option.bind_some _ _).symm.trans H;rw [hy349];with_reducible exact H2_)|(have H2_:=(Option.bind_some _ _).symm.trans H;with_reducible exact H2_)|with_reducible exact H|(rw [hy349];exact H)|exact H
  have Ny349:=A0_ hy349
  clear hy349
  by_cases c13:y349.length + l0_3.length < 2199023255552
  ·rw [if_pos c13] at H
   have LMc13:=A0_ c13
   clear c13
   obtain ⟨y352,hy352⟩: ∃ y_:List (S26),y_=(y349 ++ l0_3):=⟨_,rfl⟩
   replace H:(if 0 < (l1.length:Int) then (if 0≤(rd l1 0) then (if (rd l1 0) < (y352.length:Int) then (if 1≤(l1.length:Int) then ((spec_l01Put.f k ((rd_T26 y352 (rd l1 0)).f0) ((rd_T26 y352 (rd l1 0)).f1) ((rd_T26 y352 (rd l1 0)).f2) ((rd_T26 y352 (rd l1 0)).f3) (l1.drop 1) a2_0 a2_1 a2_2 l2_3).bind fun bt359=>(some (a0_0,a0_1,a0_2,(y352.set ((rd l1 0):Int).toNat (⟨bt359.1,bt359.2.1,bt359.2.2.1,bt359.2.2.2⟩:S26))))) else (none)) else (none)) else (none)) else (none))=some (r1,r2,r3,r4):=by first|(rw [hy352];with_reducible exact H)|(have H2_:=(Option.bind_some _ _).symm.trans H;rw [hy352];with_reducible exact H2_)|(have H2_:=(Option.bind_some _ _).symm.trans H;with_reducible exact H2_)|with_reducible exact H|(rw [hy352];exact H)|exact H
   have Ny352:=A0_ hy352
   clear hy352
   by_cases c14:0 < (l1.length:Int)
   ·rw [if_pos c14] at H
    have c14b0:decide (0 < (l1.length:Int))=true:=decide_eq_true c14
    have c14b1:decide (0 < l1.length)=true:=decide_eq_true (by omega)
    clear c14
    by_cases c15:0≤(rd l1 0)
    ·rw [if_pos c15] at H
     have c15b0:decide (0≤(rd l1 0))=true:=decide_eq_true c15
     clear c15
     by_cases c16:(rd l1 0) < (y352.length:Int)
     ·rw [if_pos c16] at H
      have c16b0:decide ((rd l1 0) < (y352.length:Int))=true:=decide_eq_true c16
      clear c16
      by_cases c17:1≤(l1.length:Int)
      ·rw [if_pos c17] at H
       have c17b0:=eq_true c17
       have c17b1:decide (1≤(l1.length:Int))=true:=decide_eq_true c17
       clear c17
       replace H:=Option.bind_eq_some_iff.mp H
       obtain ⟨⟨t359,t360,t361,t362⟩,A180,H⟩:=H
       replace H:(some (a0_0,a0_1,a0_2,(y352.set ((rd l1 0):Int).toNat (⟨t359,t360,t361,t362⟩:S26))))=some (r1,r2,r3,r4):=H
       have A18:=A0_ A180
       clear A180
       obtain ⟨y365,hy365⟩: ∃ y_:List (S26),y_=(y352.set ((rd l1 0):Int).toNat (⟨t359,t360,t361,t362⟩:S26)):=⟨_,rfl⟩
       replace H:(some (a0_0,a0_1,a0_2,y365))=some (r1,r2,r3,r4):=by first|(rw [hy365];with_reducible exact H)|(have H2_:=(Option.bind_some _ _).symm.trans H;rw [hy365];with_reducible exact H2_)|(have H2_:=(Option.bind_some _ _).symm.trans H;with_reducible exact H2_)|with_reducible exact H|(rw [hy365];exact H)|exact H
       have Ny365:=A0_ hy365
       clear hy365
       simp only [Option.some.injEq,Prod.mk.injEq] at H
       obtain ⟨rfl,rfl,rfl,rfl⟩:=H
       go_enter Try.func43,Try.ntmps43
       try go_wp2_with (first|((with_reducible refine gate_dst (N:=3) rfl ?_);refine box_event ?hg (N:=3) ?hd (cs:= #[.string a0_0, .string a0_1, .bool a0_2, .slice A0_3 l0_3.length c0_3]) (t:=26) ?hr ?_;(case hd=>rfl);(case hg=>rfl);(case hr=>first|(go_simp;done)|(go_simp;rfl));intro gb346 hg w20 hbox hb;replace HO0_3:=A0_ (Kd.V_below (Kd.V_elderB HO0_3.out gb346 (Nat.le_of_eq hg.symm)) hb);replace HO2_3:=A0_ (Kd.V_below (Kd.V_elderB HO2_3.out gb346 (Nat.le_of_eq hg.symm)) hb);have BK346:=A0_ (hbox);have GW346:=A0_ ((by rw [hg];exact (below_size HB.out):w.heap.size≤gb346));have GE346:=A0_ ((by rw [hg];exact (below_size HB.out):w.heap.size≤gb346));replace HB:=A0_ (below_step HB.out hb);clear hb hbox hg)|((with_reducible refine gate_dst (N:=5) rfl ?_);refine box_event ?hg (N:=5) ?hd (cs:= #[.string a2_0, .string a2_1, .bool a2_2, .slice A2_3 l2_3.length c2_3]) (t:=26) ?hr ?_;(case hd=>rfl);(case hg=>rfl);(case hr=>first|(go_simp;done)|(go_simp;rfl));intro gb347 hg w21 hbox hb;replace HO0_3:=A0_ (Kd.V_below (Kd.V_elderB HO0_3.out gb347 (Nat.le_of_eq hg.symm)) hb);replace HO2_3:=A0_ (Kd.V_below (Kd.V_elderB HO2_3.out gb347 (Nat.le_of_eq hg.symm)) hb);have BK347:=A0_ (hbox);have GW347:=A0_ ((by rw [hg];exact (below_size HB.out):w.heap.size≤gb347));have GE347:=A0_ ((by rw [hg];exact (below_size HB.out):w.heap.size≤gb347));replace HB:=A0_ (below_step HB.out hb);have NB346_347:=A0_ ((by rw [hg];exact Nat.ne_of_lt (blk_lt BK346.out):gb346≠gb347));have NB347_346:=A0_ ((by rw [hg];exact Nat.ne_of_gt (blk_lt BK346.out):gb347≠gb346));replace BK346:=A0_ (blk_below BK346.out hb);clear hb hbox hg)|((with_reducible refine gate_dst (N:=6) rfl ?_);refine box_event ?hg (N:=6) ?hd (cs:= #[.string (⟨#[]⟩:ByteArray), .string (⟨#[]⟩:ByteArray), .bool false, .slice none 0 0]) (t:=26) ?hr ?_;(case hd=>rfl);(case hg=>rfl);(case hr=>first|(go_simp;done)|(go_simp;rfl));intro gb348 hg w22 hbox hb;replace HO0_3:=A0_ (Kd.V_below (Kd.V_elderB HO0_3.out gb348 (Nat.le_of_eq hg.symm)) hb);replace HO2_3:=A0_ (Kd.V_below (Kd.V_elderB HO2_3.out gb348 (Nat.le_of_eq hg.symm)) hb);have BK348:=A0_ (hbox);have GW348:=A0_ ((by rw [hg];exact (below_size HB.out):w.heap.size≤gb348));have GE348:=A0_ ((by rw [hg];exact (below_size HB.out):w.heap.size≤gb348));replace HB:=A0_ (below_step HB.out hb);have NB346_348:=A0_ ((by rw [hg];exact Nat.ne_of_lt (blk_lt BK346.out):gb346≠gb348));have NB348_346:=A0_ ((by rw [hg];exact Nat.ne_of_gt (blk_lt BK346.out):gb348≠gb346));replace BK346:=A0_ (blk_below BK346.out hb);have NB347_348:=A0_ ((by rw [hg];exact Nat.ne_of_lt (blk_lt BK347.out):gb347≠gb348));have NB348_347:=A0_ ((by rw [hg];exact Nat.ne_of_gt (blk_lt BK347.out):gb348≠gb347));replace BK347:=A0_ (blk_below BK347.out hb);clear hb hbox hg)|((with_reducible refine gate_dst (N:=11) rfl ?_);refine Kd.N_lit k26 _ 26 ?hg (N':=11) ?hd (xs:=([]:List (S26))) (inner:= []) (ok:=(fun k_=>((P0_3_ k_∨P2_3_ k_)∨w.heap.size≤k_)∧k_≠gb346∧k_≠gb347∧k_≠gb348)) (okp:=(fun k_=>((P0_3_ k_∨P2_3_ k_)∨w.heap.size≤k_)∧k_≠gb346∧k_≠gb347∧k_≠gb348)) ?hr ?hp (fun _ hk=>hk) ((show ∀ k_,w22.heap.size≤k_→(fun k_=>((P0_3_ k_∨P2_3_ k_)∨w.heap.size≤k_)∧k_≠gb346∧k_≠gb347∧k_≠gb348) k_ from fun k_ hk=>⟨(.inr (Nat.le_trans (below_size HB.out) hk)),Kd.freshB (g:=gb346) (o:= .cells #[.string a0_0, .string a0_1, .bool a0_2, .slice A0_3 l0_3.length c0_3] 26 (0,0)) BK346.out k_ hk,Kd.freshB (g:=gb347) (o:= .cells #[.string a2_0, .string a2_1, .bool a2_2, .slice A2_3 l2_3.length c2_3] 26 (0,0)) BK347.out k_ hk,Kd.freshB (g:=gb348) (o:= .cells #[.string (⟨#[]⟩:ByteArray), .string (⟨#[]⟩:ByteArray), .bool false, .slice none 0 0] 26 (0,0)) BK348.out k_ hk⟩) _ (Nat.le_refl _)) (Below.refl _ _) (Nat.le_refl _) (by simp) ?_;(case hd=>rfl);(case hg=>rfl);(case hr=>first|(go_simp;done)|(go_simp;rfl));(case hp=>exact (Reps.none _ _));intro v350 w23 ho24 hb hg_ hnew_;clear hg_ hnew_;(first|rw [← Ny349.out] at ho24|(simp only [Int.reduceToNat] at ho24;rw [← Ny349.out] at ho24));replace HO0_3:=A0_ (Kd.V_elder' HO0_3.out (Kd.N_base ho24) hb);replace HO2_3:=A0_ (Kd.V_elder' HO2_3.out (Kd.N_base ho24) hb);have HO351:=A0_ (Kd.N_lower ho24 (below_size HB.out));replace BK346:=A0_ (blk_below BK346.out hb);replace BK347:=A0_ (blk_below BK347.out hb);replace BK348:=A0_ (blk_below BK348.out hb);replace HB:=A0_ (below_step HB.out hb);clear hb ho24;have hnb25:=NB346_347.out;have hnc25:=NB347_346.out;have hnb26:=NB346_348.out;have hnc26:=NB348_346.out;obtain ⟨hcz27_0,hcz27_1,hcz27_2,hcz27_3⟩:=bc4_ BK346.out;obtain ⟨hfz27_0,hfz27_1,hfz27_2,hfz27_3⟩:=bf4_ BK346.out)|((with_reducible refine gate_builtin (b:= .append) (xs:= #[.tmp 11, .tmp 13]) rfl ?_);at_builtin;refine Kd.N_append_rows k26 (w0:=w) w.heap.size rfl (.tmp 11) (.tmp 13) 24 26 (.agg #[(.string ⟨#[]⟩),(.string ⟨#[]⟩),(.bool false),(.slice none 0 0)]) 64 rfl Try.underlying24 info26 rfl (by decide) (by omega) v350 y349 l0_3 _ _ _ (fun k_=>((P0_3_ k_∨P2_3_ k_)∨w.heap.size≤k_)∧k_≠gb346∧k_≠gb347∧k_≠gb348) (fun k_=>((fun k_=>((P0_3_ k_∨P2_3_ k_)∨w.heap.size≤k_)∧k_≠gb346∧k_≠gb347∧k_≠gb348)) k_∧some k_≠(v350:Value).ownBlock) rfl rfl ?aO ?aR (fun _ hk=>hk) ?aF ?aB ?aS ?aL ?_;(case aR=>exact (by skip;exact Kd.V_F (Kd.V_mono (ok':=(fun k_=>((fun k_=>((P0_3_ k_∨P2_3_ k_)∨w.heap.size≤k_)∧k_≠gb346∧k_≠gb347∧k_≠gb348)) k_∧some k_≠(v350:Value).ownBlock)) (HO0_3.out) (fun k_ hk=>⟨⟨hk.1.1.1.1,⟨hk.1.1.1.2,⟨hk.1.1.2,hk.1.2⟩⟩⟩,hk.2⟩))));(case aB=>exact HB.out);(case aF=>exact (fun k_ hk=>⟨(.inr (Nat.le_trans (below_size HB.out) hk)),Kd.freshB (g:=gb346) (o:= .cells #[.string a0_0, .string a0_1, .bool a0_2, .slice A0_3 l0_3.length c0_3] 26 (0,0)) BK346.out k_ hk,Kd.freshB (g:=gb347) (o:= .cells #[.string a2_0, .string a2_1, .bool a2_2, .slice A2_3 l2_3.length c2_3] 26 (0,0)) BK347.out k_ hk,Kd.freshB (g:=gb348) (o:= .cells #[.string (⟨#[]⟩:ByteArray), .string (⟨#[]⟩:ByteArray), .bool false, .slice none 0 0] 26 (0,0)) BK348.out k_ hk⟩));(case aO=>exact HO351.out);(case aS=>exact (below_size HB.out));(case aL=>have:=LMc13.out;omega);intro v353 w28 ho hb hg hat;rw [← Ny352.out] at ho;have n0_:=A0_ (Kd.V_afterv (ok:=(fun k_=>((P0_3_ k_∨P2_3_ k_)∨w.heap.size≤k_)∧k_≠gb346∧k_≠gb347∧k_≠gb348)) (Kd.V_mono HO0_3.out (fun _ hk=>⟨⟨hk.1.1.1.1,⟨hk.1.1.1.2,⟨hk.1.1.2,hk.1.2⟩⟩⟩,hk.2⟩)) hg hat);have n1_:=A0_ (Kd.V_afterv (ok:=(fun k_=>((P0_3_ k_∨P2_3_ k_)∨w.heap.size≤k_)∧k_≠gb346∧k_≠gb347∧k_≠gb348)) (Kd.V_mono HO2_3.out (fun _ hk=>⟨⟨hk.1.1.1.1,⟨hk.1.1.1.2,⟨hk.1.1.2,hk.1.2⟩⟩⟩,hk.2⟩)) hg hat);have n2_:=A0_ (blk_grown BK346.out hg (Kd.N_away HO351.out (fun _ hk=>hk.2.1)));have n3_:=A0_ (blk_grown BK347.out hg (Kd.N_away HO351.out (fun _ hk=>hk.2.2.1)));have n4_:=A0_ (blk_grown BK348.out hg (Kd.N_away HO351.out (fun _ hk=>hk.2.2.2)));have n5_:=A0_ (hb);have n6_:=A0_ (ho);clear HO0_3;clear HO2_3;clear BK346;clear BK347;clear BK348;clear HB;clear HO351;have HO0_3:=n0_;have HO2_3:=n1_;have BK346:=n2_;have BK347:=n3_;have BK348:=n4_;have HB:=n5_;have HO354:=n6_;clear n0_ n1_ n2_ n3_ n4_ n5_ n6_;clear ho hb hg hat;obtain ⟨Ao29,co29,eo29⟩:=Kd.N_slice HO354.out;subst eo29;obtain ⟨hcz30_0,hcz30_1,hcz30_2,hcz30_3⟩:=bc4_ BK346.out;obtain ⟨hfz30_0,hfz30_1,hfz30_2,hfz30_3⟩:=bf4_ BK346.out))
       have n0_:Aside0 (Kd.V k26 26 (w28.setCell ⟨gb346,3,none⟩ (.slice Ao29 y352.length co29)) w.heap.size (fun k_=>((P0_3_ k_∨P2_3_ k_)∨w.heap.size≤k_)∧some k_≠(.slice Ao29 y352.length co29:Value).ownBlock∧k_≠gb346∧k_≠gb347∧k_≠gb348) (.slice A0_3 l0_3.length c0_3) l0_3):=⟨by (with_reducible repeat (first|apply Kd.V_alloc|apply Kd.V_drewN|apply Kd.V_drew));exact Kd.V_mono (Kd.V_far (p:=⟨gb346,3,none⟩) (Kd.V_mono HO0_3.out (fun k_ hk=>(⟨hk,hk.1.2.1⟩:_∧k_≠gb346))) (fun _ hk=>hk.2) (.slice Ao29 y352.length co29)) (fun _ hk=>⟨hk.1.1.1,⟨hk.1.2,⟨hk.1.1.2.1,⟨hk.1.1.2.2.1,hk.1.1.2.2.2⟩⟩⟩⟩)⟩
       have n1_:Aside0 (Kd.V k26 26 (w28.setCell ⟨gb346,3,none⟩ (.slice Ao29 y352.length co29)) w.heap.size (fun k_=>((P0_3_ k_∨P2_3_ k_)∨w.heap.size≤k_)∧some k_≠(.slice Ao29 y352.length co29:Value).ownBlock∧k_≠gb346∧k_≠gb347∧k_≠gb348) (.slice A2_3 l2_3.length c2_3) l2_3):=⟨by (with_reducible repeat (first|apply Kd.V_alloc|apply Kd.V_drewN|apply Kd.V_drew));exact Kd.V_mono (Kd.V_far (p:=⟨gb346,3,none⟩) (Kd.V_mono HO2_3.out (fun k_ hk=>(⟨hk,hk.1.2.1⟩:_∧k_≠gb346))) (fun _ hk=>hk.2) (.slice Ao29 y352.length co29)) (fun _ hk=>⟨hk.1.1.1,⟨hk.1.2,⟨hk.1.1.2.1,⟨hk.1.1.2.2.1,hk.1.1.2.2.2⟩⟩⟩⟩)⟩
       have n2_:Aside0 (Kd.N k26 26 (w28.setCell ⟨gb346,3,none⟩ (.slice Ao29 y352.length co29)) w.heap.size (fun k_=>((P0_3_ k_∨P2_3_ k_)∨w.heap.size≤k_)∧k_≠gb346∧k_≠gb347∧k_≠gb348) (.slice Ao29 y352.length co29) y352):=⟨by (with_reducible repeat (first|apply Kd.N_alloc|apply Kd.N_drewN|apply Kd.N_drew));exact Kd.N_mono (Kd.N_far (p:=⟨gb346,3,none⟩) (Kd.N_mono HO354.out (fun k_ hk=>(⟨hk,hk.2.1⟩:_∧k_≠gb346))) (fun _ hk=>hk.2) (.slice Ao29 y352.length co29)) (fun _ hk=>⟨hk.1.1,⟨hk.1.2.1,⟨hk.1.2.2.1,hk.1.2.2.2⟩⟩⟩)⟩
       have n3_:Aside0 ((w28.setCell ⟨gb346,3,none⟩ (.slice Ao29 y352.length co29)).heap[gb346]?= some (.cells #[.string a0_0, .string a0_1, .bool a0_2, .slice Ao29 y352.length co29] 26 (0,0))):=⟨by (with_reducible repeat (first|refine blk_drewN ?_ _|refine blk_drew ?_|refine blk_alloc ?_ _));refine blk_put (cs:= #[.string a0_0, .string a0_1, .bool a0_2, .slice A0_3 l0_3.length c0_3]) ?_ 3 _ rfl;(with_reducible repeat (first|refine blk_drewN ?_ _|refine blk_drew ?_|refine blk_alloc ?_ _));exact BK346.out⟩
       have n4_:Aside0 ((w28.setCell ⟨gb346,3,none⟩ (.slice Ao29 y352.length co29)).heap[gb347]?= some (.cells #[.string a2_0, .string a2_1, .bool a2_2, .slice A2_3 l2_3.length c2_3] 26 (0,0))):=⟨by (with_reducible repeat (first|refine blk_drewN ?_ _|refine blk_drew ?_|refine blk_alloc ?_ _));refine blk_far ?_ NB347_346.out _;(with_reducible repeat (first|refine blk_drewN ?_ _|refine blk_drew ?_|refine blk_alloc ?_ _));exact BK347.out⟩
       have n5_:Aside0 ((w28.setCell ⟨gb346,3,none⟩ (.slice Ao29 y352.length co29)).heap[gb348]?= some (.cells #[.string (⟨#[]⟩:ByteArray), .string (⟨#[]⟩:ByteArray), .bool false, .slice none 0 0] 26 (0,0))):=⟨by (with_reducible repeat (first|refine blk_drewN ?_ _|refine blk_drew ?_|refine blk_alloc ?_ _));refine blk_far ?_ NB348_346.out _;(with_reducible repeat (first|refine blk_drewN ?_ _|refine blk_drew ?_|refine blk_alloc ?_ _));exact BK348.out⟩
       have n6_:Aside0 (Below w.heap.size w (w28.setCell ⟨gb346,3,none⟩ (.slice Ao29 y352.length co29))):=⟨by repeat (first|(with_reducible first|exact HB.out|apply below_alloc|apply pw_below_drewN|apply below_drew1|refine below_set ?_ GE346.out|refine below_set ?_ GE347.out|refine below_set ?_ GE348.out)|exact HB.out)⟩
       (try clear HO0_3)
       (try clear HO2_3)
       (try clear HO354)
       (try clear BK346)
       (try clear BK347)
       (try clear BK348)
       (try clear HB)
       generalize (w28.setCell ⟨gb346,3,none⟩ (.slice Ao29 y352.length co29))=w31 at n0_ n1_ n2_ n3_ n4_ n5_ n6_ ⊢
       have HO0_3:=n0_
       have HO2_3:=n1_
       have HO354:=n2_
       have BK346:=n3_
       have BK347:=n4_
       have BK348:=n5_
       have HB:=n6_
       clear n0_ n1_ n2_ n3_ n4_ n5_ n6_
       have n0_:=A0_ (Kd.V_drew HO0_3.out)
       have n1_:=A0_ (Kd.V_drew HO2_3.out)
       have n2_:=A0_ (Kd.N_drew HO354.out)
       have n3_:=A0_ (blk_drew BK346.out)
       have n4_:=A0_ (blk_drew BK347.out)
       have n5_:=A0_ (blk_drew BK348.out)
       have n6_:=A0_ (below_drew1 HB.out)
       clear HO0_3
       clear HO2_3
       clear HO354
       clear BK346
       clear BK347
       clear BK348
       clear HB
       have HO0_3:=n0_
       have HO2_3:=n1_
       have HO354:=n2_
       have BK346:=n3_
       have BK347:=n4_
       have BK348:=n5_
       have HB:=n6_
       clear n0_ n1_ n2_ n3_ n4_ n5_ n6_
       have p355:0≤(0:Int):=(by omega)
       have q355:0 < (l1.length:Int):=of_decide_eq_true (by first|(with_reducible assumption)|assumption)
       obtain ⟨ad355,e355,hx355_0⟩:=Kd.at_int HR1.out 0 p355 q355
       have hw355_0:=hx355_0
       (try rw [show ((0:Int)).toNat=0 from rfl] at hw355_0)
       (try rw [show 0 * 1=0 from rfl] at hw355_0)
       (try rw [Addr.add_zero'] at hw355_0)
       cases e355
       have qi355:(0 < l1.length)=True:=eq_true (by omega)
       (try rw [show ((0:Int)).toNat=0 from rfl] at hx355_0)
       (try rw [Addr.add_zero'] at hx355_0)
       replace hx355_0:=(HB.out.cell (World.block_lt_of_cell? w _ hx355_0)).trans hx355_0
       replace p355:=eq_true p355
       replace q355:=eq_true q355
       have p356:0≤(0:Int):=(by omega)
       have q356:0 < (l1.length:Int):=of_decide_eq_true (by first|(with_reducible assumption)|assumption)
       obtain ⟨ad356,e356,hx356_0⟩:=Kd.at_int HR1.out 0 p356 q356
       have hw356_0:=hx356_0
       (try rw [show ((0:Int)).toNat=0 from rfl] at hw356_0)
       (try rw [show 0 * 1=0 from rfl] at hw356_0)
       (try rw [Addr.add_zero'] at hw356_0)
       obtain rfl:ad355=ad356:=(by injection e356)
       have qi356:(0 < l1.length)=True:=eq_true (by omega)
       (try rw [show ((0:Int)).toNat=0 from rfl] at hx356_0)
       (try rw [Addr.add_zero'] at hx356_0)
       replace hx356_0:=(HB.out.cell (World.block_lt_of_cell? w _ hx356_0)).trans hx356_0
       replace p356:=eq_true p356
       replace q356:=eq_true q356
       have p357:0≤((rd l1 0):Int):=of_decide_eq_true (by first|(with_reducible assumption)|assumption)
       have q357:(rd l1 0) < (y352.length:Int):=of_decide_eq_true (by first|(with_reducible assumption)|assumption)
       obtain ⟨ad357,A357_3,c357_3,e357,hx357_0,hx357_1,hx357_2,hx357_3,hl357_3,hi357_3⟩:=at_T26 (Kd.N_reads' HO354.out).2.2 (rd l1 0) p357 q357
       cases e357
       obtain ⟨ce357,hce357,hMe357,hcc357⟩:=Kd.N_get HO354.out z26 (rd l1 0) p357 (by first|exact q357|exact of_decide_eq_true (by first|(with_reducible assumption)|assumption)|(have e_:=(Kd.N_reads' HO354.out).1;omega))
       obtain ⟨ua357_3,uc357_3,rfl,ul357_3,ge357_3⟩:=k26_openF hMe357
       have hv357_3:=hcc357 3 _ rfl
       rw [add_field _ _ 3 (by omega)] at hv357_3
       replace hv357_3:=Option.some.inj (hv357_3.symm.trans hx357_3)
       injection hv357_3 with hva_ hvn_ hvc_
       rw [hva_] at ge357_3
       rw [hvc_] at ul357_3
       have HL357_3:=A0_ (show Kd.V k26 26 _ w.heap.size _ _ ((rd_T26 y352 (rd l1 0)).f3) from Kd.V_mk ul357_3 ge357_3)
       clear hva_ hvn_ hvc_ ge357_3 ul357_3
       clear hcc357 hce357
       have HR357_3:=A0_ hi357_3
       have HC357_3:=A0_ hl357_3
       clear hi357_3 hl357_3
       replace p357:=eq_true p357
       replace q357:=eq_true q357
       obtain ⟨i033,hi033,_,hsz33,_⟩:=info_parts info3
       obtain ⟨A33,hcut33,hA33,hC33⟩:=print_drop_of (P:=Try.prog) (Value.int .i64) 0 27 3 .i64 Try.underlying27 hi033 hsz33 (some ad355) c1 l1 1 (by omega) (of_decide_eq_true (by first|(with_reducible assumption)|assumption)) HC1.out
       have HR358:=A0_ (Kd.C_of_reads (h1:=fun _=>rfl) (hA33 _ (Kd.reads_of_C HR1.out)))
       have HC358:=A0_ hC33
       clear hA33 hC33 hi033 hsz33
       refine start_ (n:=18) (S:=fun w'=>w'.cell? ⟨gb346,0,none⟩=some (.string a0_0)∧w'.cell? ⟨gb346,1,none⟩=some (.string a0_1)∧w'.cell? ⟨gb346,2,none⟩=some (.bool a0_2)∧w'.cell? ⟨gb346,3,none⟩=some (.slice (some ad357) y352.length co29)∧w'.cell? ⟨gb347,0,none⟩=some (.string a2_0)∧w'.cell? ⟨gb347,1,none⟩=some (.string a2_1)∧w'.cell? ⟨gb347,2,none⟩=some (.bool a2_2)∧w'.cell? ⟨gb347,3,none⟩=some (.slice A2_3 l2_3.length c2_3)∧w'.cell? ad355=some (.int .i64 (rd l1 0))∧w'.cell? ad355=some (.int .i64 (rd l1 0))∧w'.cell? (ad357.add (((rd l1 0)).toNat * 4))=some (.string ((rd_T26 y352 (rd l1 0)).f0))∧w'.cell? ⟨(ad357.add (((rd l1 0)).toNat * 4)).block,(ad357.add (((rd l1 0)).toNat * 4)).off + 1,none⟩=some (.string ((rd_T26 y352 (rd l1 0)).f1))∧w'.cell? ⟨(ad357.add (((rd l1 0)).toNat * 4)).block,(ad357.add (((rd l1 0)).toNat * 4)).off + 2,none⟩=some (.bool ((rd_T26 y352 (rd l1 0)).f2))∧w'.cell? ⟨(ad357.add (((rd l1 0)).toNat * 4)).block,(ad357.add (((rd l1 0)).toNat * 4)).off + 3,none⟩=some (.slice A357_3 ((rd_T26 y352 (rd l1 0)).f3).length c357_3)) (ds:= [17]) #[false,false,false,false,false,false,false,false,false,false,false,false,false,false,false,false,false,false] (by kernel_rfl) rfl rfl ⟨(blk_cell BK346.out 0).trans rfl,(blk_cell BK346.out 1).trans rfl,(blk_cell BK346.out 2).trans rfl,(blk_cell BK346.out 3).trans rfl,(blk_cell BK347.out 0).trans rfl,(blk_cell BK347.out 1).trans rfl,(blk_cell BK347.out 2).trans rfl,(blk_cell BK347.out 3).trans rfl,((HB.out.cell (World.block_lt_of_cell? w _ hw355_0)).trans hw355_0),((HB.out.cell (World.block_lt_of_cell? w _ hw356_0)).trans hw356_0),hx357_0,hx357_1,hx357_2,hx357_3⟩ (fun hHeld=> ?_);refine with_tabW spec_l01Put.tab4 spec_l01Put.bits4 (fun HT_ HW_=> ?_)
       generalize w31.drew=w32 at HO0_3 HO2_3 HO354 BK346 BK347 BK348 HB HL357_3 HR357_3 HR358 hx355_0 hx356_0 hx357_0 hx357_1 hx357_2 hx357_3 hHeld ⊢
       refine pure_ (i:=0) (N:=some 16) (v:= ?_) (a':= ?_) #[true,false,false,false,false,false,false,false,false,false,false,false,false,false,false,false,false,false] rfl rfl (any_of HT_.out (by kernel_rfl)) (fun _ _ _ h=>h) (Or.inl ⟨by rfl, ?_⟩) ?_ ?_
       rotate_left
       ·intro w'
        go_simp
        with_reducible rfl
       rotate_left
       ·simp only [Act.put,List.setIfInBounds_toArray,List.set_cons_zero,List.set_cons_succ,i64_w,i32_w]
        rfl
       refine pure_ (i:=2) (N:=some 18) (v:= ?_) (a':= ?_) #[true,false,true,false,false,false,false,false,false,false,false,false,false,false,false,false,false,false] rfl rfl (any_of HT_.out (by kernel_rfl)) (fun _ _ _ h=>h) (Or.inl ⟨by rfl, ?_⟩) ?_ ?_
       rotate_left
       ·intro w'
        go_simp
        with_reducible rfl
       rotate_left
       ·simp only [Act.put,List.setIfInBounds_toArray,List.set_cons_zero,List.set_cons_succ,i64_w,i32_w]
        rfl
       refine pure_ (i:=3) (N:=some 19) (v:= ?_) (a':= ?_) #[true,false,true,true,false,false,false,false,false,false,false,false,false,false,false,false,false,false] rfl rfl (any_of HT_.out (by kernel_rfl)) (fun _ _ _ h=>h) (Or.inl ⟨by rfl, ?_⟩) ?_ ?_
       rotate_left
       ·intro w'
        go_simp
        with_reducible rfl
       rotate_left
       ·simp only [Act.put,List.setIfInBounds_toArray,List.set_cons_zero,List.set_cons_succ,i64_w,i32_w]
        rfl
       refine pure_ (i:=5) (N:=some 21) (v:= ?_) (a':= ?_) #[true,false,true,true,false,true,false,false,false,false,false,false,false,false,false,false,false,false] rfl rfl (any_of HT_.out (by kernel_rfl)) (fun _ _ _ h=>h) (Or.inl ⟨by rfl, ?_⟩) ?_ ?_
       rotate_left
       ·intro w'
        go_simp
        with_reducible rfl
       rotate_left
       ·simp only [Act.put,List.setIfInBounds_toArray,List.set_cons_zero,List.set_cons_succ,i64_w,i32_w]
        rfl
       refine pure_ (i:=7) (N:=some 23) (v:= ?_) (a':= ?_) #[true,false,true,true,false,true,false,true,false,false,false,false,false,false,false,false,false,false] rfl rfl (any_of HT_.out (by kernel_rfl)) (fun _ _ _ h=>h) (Or.inl ⟨by rfl, ?_⟩) ?_ ?_
       rotate_left
       ·intro w'
        go_simp
        with_reducible rfl
       rotate_left
       ·simp only [Act.put,List.setIfInBounds_toArray,List.set_cons_zero,List.set_cons_succ,i64_w,i32_w]
        rfl
       refine pure_ (i:=8) (N:=some 24) (v:= ?_) (a':= ?_) #[true,false,true,true,false,true,false,true,true,false,false,false,false,false,false,false,false,false] rfl rfl (any_of HT_.out (by kernel_rfl)) (fun _ _ _ h=>h) (Or.inl ⟨by rfl, ?_⟩) ?_ ?_
       rotate_left
       ·intro w'
        go_simp
        with_reducible rfl
       rotate_left
       ·simp only [Act.put,List.setIfInBounds_toArray,List.set_cons_zero,List.set_cons_succ,i64_w,i32_w]
        rfl
       refine pure_ (i:=12) (N:=some 28) (v:= ?_) (a':= ?_) #[true,false,true,true,false,true,false,true,true,false,false,false,true,false,false,false,false,false] rfl rfl (any_of HT_.out (by kernel_rfl)) (fun _ _ _ h=>h) (Or.inl ⟨by rfl, ?_⟩) ?_ ?_
       rotate_left
       ·intro w'
        go_simp
        with_reducible rfl
       rotate_left
       ·simp only [Act.put,List.setIfInBounds_toArray,List.set_cons_zero,List.set_cons_succ,i64_w,i32_w]
        rfl
       refine pure_ (i:=13) (N:=some 29) (v:= ?_) (a':= ?_) #[true,false,true,true,false,true,false,true,true,false,false,false,true,true,false,false,false,false] rfl rfl (any_of HT_.out (by kernel_rfl)) (fun _ _ _ h=>h) (Or.inl ⟨by rfl, ?_⟩) ?_ ?_
       rotate_left
       ·intro w'
        go_simp
        with_reducible rfl
       rotate_left
       ·simp only [Act.put,List.setIfInBounds_toArray,List.set_cons_zero,List.set_cons_succ,i64_w,i32_w]
        rfl
       refine take_ (i:=1) (N:=some 17) (v:= ?_) (a':= ?_) #[true,true,true,true,false,true,false,true,true,false,false,false,true,true,false,false,false,false] rfl rfl (take_ofW HT_.out HW_.out (by kernel_rfl)) (fun _ _ _ h=>h) (Or.inl ⟨by rfl, ?_⟩) hHeld ?_ ?_
       rotate_left
       ·rintro w' ⟨s0,s1,s2,s3,s4,s5,s6,s7,s8,s9,s10,s11,s12,s13⟩
        go_simp
        with_reducible rfl
       rotate_left
       ·simp only [Act.put,List.setIfInBounds_toArray,List.set_cons_zero,List.set_cons_succ,i64_w,i32_w]
        rfl
       refine take_ (i:=4) (N:=some 20) (v:= ?_) (a':= ?_) #[true,true,true,true,true,true,false,true,true,false,false,false,true,true,false,false,false,false] rfl rfl (take_ofW HT_.out HW_.out (by kernel_rfl)) (fun _ _ _ h=>h) (Or.inl ⟨by rfl, ?_⟩) hHeld ?_ ?_
       rotate_left
       ·rintro w' ⟨s0,s1,s2,s3,s4,s5,s6,s7,s8,s9,s10,s11,s12,s13⟩
        go_simp
        with_reducible rfl
       rotate_left
       ·simp only [Act.put,List.setIfInBounds_toArray,List.set_cons_zero,List.set_cons_succ,i64_w,i32_w]
        rfl
       refine take_ (i:=6) (N:=some 22) (v:= ?_) (a':= ?_) #[true,true,true,true,true,true,true,true,true,false,false,false,true,true,false,false,false,false] rfl rfl (take_ofW HT_.out HW_.out (by kernel_rfl)) (fun _ _ _ h=>h) (Or.inl ⟨by rfl, ?_⟩) hHeld ?_ ?_
       rotate_left
       ·rintro w' ⟨s0,s1,s2,s3,s4,s5,s6,s7,s8,s9,s10,s11,s12,s13⟩
        go_simp
        with_reducible rfl
       rotate_left
       ·simp only [Act.put,List.setIfInBounds_toArray,List.set_cons_zero,List.set_cons_succ,i64_w,i32_w]
        rfl
       refine take_ (i:=9) (N:=some 25) (v:= ?_) (a':= ?_) #[true,true,true,true,true,true,true,true,true,true,false,false,true,true,false,false,false,false] rfl rfl (take_ofW HT_.out HW_.out (by kernel_rfl)) (fun _ _ _ h=>h) (Or.inl ⟨by rfl, ?_⟩) hHeld ?_ ?_
       rotate_left
       ·rintro w' ⟨s0,s1,s2,s3,s4,s5,s6,s7,s8,s9,s10,s11,s12,s13⟩
        go_simp
        with_reducible rfl
       rotate_left
       ·simp only [Act.put,List.setIfInBounds_toArray,List.set_cons_zero,List.set_cons_succ,i64_w,i32_w]
        rfl
       refine pure_ (i:=10) (N:=some 26) (v:= ?_) (a':= ?_) #[true,true,true,true,true,true,true,true,true,true,true,false,true,true,false,false,false,false] rfl rfl (any_of HT_.out (by kernel_rfl)) (fun _ _ _ h=>h) (Or.inl ⟨by rfl, ?_⟩) ?_ ?_
       rotate_left
       ·intro w'
        go_simp
        with_reducible rfl
       rotate_left
       ·simp only [Act.put,List.setIfInBounds_toArray,List.set_cons_zero,List.set_cons_succ,i64_w,i32_w]
        rfl
       refine take_ (i:=11) (N:=some 27) (v:= ?_) (a':= ?_) #[true,true,true,true,true,true,true,true,true,true,true,true,true,true,false,false,false,false] rfl rfl (take_ofW HT_.out HW_.out (by kernel_rfl)) (fun _ _ _ h=>h) (Or.inl ⟨by rfl, ?_⟩) hHeld ?_ ?_
       rotate_left
       ·rintro w' ⟨s0,s1,s2,s3,s4,s5,s6,s7,s8,s9,s10,s11,s12,s13⟩
        go_simp
        with_reducible rfl
       rotate_left
       ·simp only [Act.put,List.setIfInBounds_toArray,List.set_cons_zero,List.set_cons_succ,i64_w,i32_w]
        rfl
       refine take_ (i:=14) (N:=some 30) (v:= ?_) (a':= ?_) #[true,true,true,true,true,true,true,true,true,true,true,true,true,true,true,false,false,false] rfl rfl (take_ofW HT_.out HW_.out (by kernel_rfl)) (fun _ _ _ h=>h) (Or.inl ⟨by rfl, ?_⟩) hHeld ?_ ?_
       rotate_left
       ·rintro w' ⟨s0,s1,s2,s3,s4,s5,s6,s7,s8,s9,s10,s11,s12,s13⟩
        go_simp
        with_reducible rfl
       rotate_left
       ·simp only [Act.put,List.setIfInBounds_toArray,List.set_cons_zero,List.set_cons_succ,i64_w,i32_w]
        rfl
       refine one_ (i:=15) (N:=some 31) #[true,true,true,true,true,true,true,true,true,true,true,true,true,true,true,true,false,false] rfl rfl (one_of HT_.out (by kernel_rfl)) (by decide) (fun K hK=> ?_)
       refine goes_ Try.func43 (by kernel_rfl) rfl #[.agg #[.string ((rd_T26 y352 (rd l1 0)).f0), .string ((rd_T26 y352 (rd l1 0)).f1), .bool ((rd_T26 y352 (rd l1 0)).f2), .slice A357_3 ((rd_T26 y352 (rd l1 0)).f3).length c357_3], .slice A33 (l1.drop 1).length (c1 - 1), .agg #[.string a2_0, .string a2_1, .bool a2_2, .slice A2_3 l2_3.length c2_3]] (by rfl) rfl rfl (by (try simp only [List.map_toArray,List.map_cons,List.map_nil]);first|done|(rw [show (l1.drop 1).length=(l1.length - 1) from List.length_drop] <;> rfl)|rfl|(simp only [List.length_drop,List.length_take];rfl)) ?_
       with_reducible refine (ih k (by omega) ((rd_T26 y352 (rd l1 0)).f0) ((rd_T26 y352 (rd l1 0)).f1) ((rd_T26 y352 (rd l1 0)).f2) (fun k_=>((((P0_3_ k_∨P2_3_ k_)∨w.heap.size≤k_)∧(k_≠gb346∧(k_≠gb347∧k_≠gb348)))∧some k_≠(.slice (some ad357) y352.length co29:Value).ownBlock)) _ _ ((rd_T26 y352 (rd l1 0)).f3) _ _ (l1.drop 1) a2_0 a2_1 a2_2 (fun k_=>(((P0_3_ k_∨P2_3_ k_)∨w.heap.size≤k_)∧(some k_≠(.slice (some ad357) y352.length co29:Value).ownBlock∧(k_≠gb346∧(k_≠gb347∧k_≠gb348))))) _ _ l2_3 t359 t360 t361 t362 _ ?side1 ?side2 ?side3 ?side4 A18.out).mono ?_
       (case side1=>exact HL357_3.out)
       (case side2=>repeat (first|exact (Kd.C_below HR358.out HB.out)|(with_reducible refine Kd.C_alloc ?_ _)|(with_reducible refine Kd.C_drewN ?_ _)|(with_reducible refine Kd.C_drew ?_)))
       (case side3=>exact HC358.out)
       (case side4=>exact HO2_3.out)
       rintro e w34 ⟨v363,rfl,ho0,hb⟩
       have HS10_:=(hb.cell (World.block_lt_of_cell? _ _ (hHeld.2.2.2.2.2.2.2.2.2.2.1))).trans (hHeld.2.2.2.2.2.2.2.2.2.2.1)
       have HS11_:=(hb.cell (World.block_lt_of_cell? _ _ (hHeld.2.2.2.2.2.2.2.2.2.2.2.1))).trans (hHeld.2.2.2.2.2.2.2.2.2.2.2.1)
       have HS12_:=(hb.cell (World.block_lt_of_cell? _ _ (hHeld.2.2.2.2.2.2.2.2.2.2.2.2.1))).trans (hHeld.2.2.2.2.2.2.2.2.2.2.2.2.1)
       have HS13_:=(hb.cell (World.block_lt_of_cell? _ _ (hHeld.2.2.2.2.2.2.2.2.2.2.2.2.2))).trans (hHeld.2.2.2.2.2.2.2.2.2.2.2.2.2)
       refine ⟨_,rfl, ?_⟩
       have n0_:=A0_ (Kd.V_below HO0_3.out hb)
       have n1_:=A0_ (Kd.V_below HO2_3.out hb)
       have n2_:=A0_ (Kd.N_below HO354.out hb)
       have n3_:=A0_ (Kd.V_below HL357_3.out hb)
       have n4_:=A0_ (Kd.V_lower (Kd.V_mono (ok':=fun k_=>((P0_3_ k_∨P2_3_ k_)∨w.heap.size≤k_)∧some k_≠(.slice (some ad357) y352.length co29:Value).ownBlock∧k_≠gb346∧k_≠gb347∧k_≠gb348) ho0 (fun k_ hk_=>⟨Or.elim hk_ (fun hs_=>Or.elim hs_ (fun hs_=>(by first|exact hs_.1.1|(have hk0_:=hs_;revert hk0_;(try simp only [and_imp]);intros;(repeat' apply And.intro) <;> assumption))) (fun hs_=>(by first|exact hs_.1|(have hk0_:=hs_;revert hk0_;(try simp only [and_imp]);intros;(repeat' apply And.intro) <;> assumption)))) (fun hn_=>(.inr (Nat.le_trans (below_size HB.out) hn_))),Or.elim hk_ (fun hs_=>Or.elim hs_ (fun hs_=>hs_.2) (fun hs_=>hs_.2.1)) (fun hn_=>(Kd.fresh' (Kd.N_lt HO354.out) k_ hn_)),Or.elim hk_ (fun hs_=>Or.elim hs_ (fun hs_=>(by first|exact hs_.1.2.1|(have hk0_:=hs_;revert hk0_;(try simp only [and_imp]);intros;(repeat' apply And.intro) <;> assumption))) (fun hs_=>(by first|exact hs_.2.2.1|(have hk0_:=hs_;revert hk0_;(try simp only [and_imp]);intros;(repeat' apply And.intro) <;> assumption)))) (fun hn_=>(Kd.freshB BK346.out k_ hn_)),Or.elim hk_ (fun hs_=>Or.elim hs_ (fun hs_=>(by first|exact hs_.1.2.2.1|(have hk0_:=hs_;revert hk0_;(try simp only [and_imp]);intros;(repeat' apply And.intro) <;> assumption))) (fun hs_=>(by first|exact hs_.2.2.2.1|(have hk0_:=hs_;revert hk0_;(try simp only [and_imp]);intros;(repeat' apply And.intro) <;> assumption)))) (fun hn_=>(Kd.freshB BK347.out k_ hn_)),Or.elim hk_ (fun hs_=>Or.elim hs_ (fun hs_=>(by first|exact hs_.1.2.2.2|(have hk0_:=hs_;revert hk0_;(try simp only [and_imp]);intros;(repeat' apply And.intro) <;> assumption))) (fun hs_=>(by first|exact hs_.2.2.2.2|(have hk0_:=hs_;revert hk0_;(try simp only [and_imp]);intros;(repeat' apply And.intro) <;> assumption)))) (fun hn_=>(Kd.freshB BK348.out k_ hn_))⟩)) (below_size HB.out))
       have n5_:=A0_ (blk_below BK346.out hb)
       have n6_:=A0_ (blk_below BK347.out hb)
       have n7_:=A0_ (blk_below BK348.out hb)
       have n8_:=A0_ (Kd.C_below HR357_3.out hb)
       have n9_:=A0_ (below_step HB.out hb)
       clear HO0_3
       clear HO2_3
       clear HO354
       clear HL357_3
       clear BK346
       clear BK347
       clear BK348
       clear HR357_3
       clear HB
       have HO0_3:=n0_
       have HO2_3:=n1_
       have HO354:=n2_
       have HL357_3:=n3_
       have HO364:=n4_
       have BK346:=n5_
       have BK347:=n6_
       have BK348:=n7_
       have HR357_3:=n8_
       have HB:=n9_
       clear n0_ n1_ n2_ n3_ n4_ n5_ n6_ n7_ n8_ n9_
       (try clear hb)
       (try clear hb2)
       (try clear hk)
       (try clear hi)
       (try clear ho0)
       have p19:0≤((rd l1 0):Int):=of_decide_eq_true (by first|(with_reducible assumption)|assumption)
       have q19:((rd l1 0):Int) < ((y352.length:Int):Int):=of_decide_eq_true (by first|(with_reducible assumption)|assumption)
       obtain ⟨go19,co19,eo19,gb19,gl19,cl19,HG19⟩:=Kd.N_form HO354.out (by omega)
       (first|cases eo19|(injection eo19 with ea_ en_ ec_;(first|subst ea_|(injection ea_ with ea_;subst ea_));subst ec_;clear en_))
       have GB19:=A0_ gb19
       have GG19:=A0_ HG19
       clear gb19 gl19 HG19
       (first|simp only [add_plain] at hx357_0|skip)
       (first|simp only [add_plain] at hx357_1|skip)
       (first|simp only [add_plain] at hx357_2|skip)
       (first|simp only [add_plain] at hx357_3|skip)
       obtain ⟨ce19,hcl19,hM19,hcc19,hfr19⟩:=Kd.N_elem HO354.out z26 ((rd l1 0):Int) p19 q19
       obtain ⟨ua19_3,uc19_3,rfl,ul19_3,ge19_3⟩:=k26_openF hM19
       have hx19_0:World.cell? _ ⟨go19,((rd l1 0):Int).toNat * 4,none⟩=some (.string ((rd_T26 y352 (rd l1 0)).f0)):=hcc19 0 _ rfl
       have hx19_1:World.cell? _ ⟨go19,((rd l1 0):Int).toNat * 4 + 1,none⟩=some (.string ((rd_T26 y352 (rd l1 0)).f1)):=hcc19 1 _ rfl
       have hx19_2:World.cell? _ ⟨go19,((rd l1 0):Int).toNat * 4 + 2,none⟩=some (.bool ((rd_T26 y352 (rd l1 0)).f2)):=hcc19 2 _ rfl
       have hx19_3:World.cell? _ ⟨go19,((rd l1 0):Int).toNat * 4 + 3,none⟩=some (.slice ua19_3 ((rd_T26 y352 (rd l1 0)).f3).length uc19_3):=hcc19 3 _ rfl
       have hf19_0:World.frozen? _ ⟨go19,((rd l1 0):Int).toNat * 4,none⟩=false:=hfr19 0
       have hf19_1:World.frozen? _ ⟨go19,((rd l1 0):Int).toNat * 4 + 1,none⟩=false:=hfr19 1
       have hf19_2:World.frozen? _ ⟨go19,((rd l1 0):Int).toNat * 4 + 2,none⟩=false:=hfr19 2
       have hf19_3:World.frozen? _ ⟨go19,((rd l1 0):Int).toNat * 4 + 3,none⟩=false:=hfr19 3
       clear hcl19 hcc19 hfr19 hM19
       replace p19:=eq_true p19
       replace q19:=eq_true q19
       obtain ⟨Ao35,co35,eo35⟩:=Kd.V_slice HO364.out
       (first|subst eo35|(injection eo35 with f1_ f2_ f3_;have f4_:=f1_.symm;have f5_:=f3_.symm;clear f1_ f2_ f3_;subst f4_;subst f5_))
       have HX36:=A0_ (show Kd.N k26 26 _ w.heap.size (fun k_=>((P0_3_ k_∨P2_3_ k_)∨w.heap.size≤k_)∧k_≠gb346∧k_≠gb347∧k_≠gb348) (.slice (some ⟨go19,0,none⟩) y352.length co29) y352 from (Kd.N_mono (HO354.out) (fun k_ hk=>⟨hk.1,⟨hk.2.1,⟨hk.2.2.1,hk.2.2.2⟩⟩⟩)))
       obtain ⟨ce36,hcl36,hM36,hcc36,hfr36⟩:=Kd.N_elem HX36.out z26 ((rd l1 0):Int) (of_decide_eq_true (by first|(with_reducible assumption)|assumption)) (by have h_:((rd l1 0):Int) < ((y352.length:Int):Int):=of_decide_eq_true (by first|(with_reducible assumption)|assumption);first|exact h_|(have e_:=(Kd.N_reads' HO354.out).1;omega)|simpa using h_)
       obtain ⟨ua36_3,uc36_3,rfl,ul36_3,ge36_3⟩:=k26_openF hM36
       have HP36:=(Kd.N_seg HX36.out ((rd l1 0):Int) (of_decide_eq_true (by first|(with_reducible assumption)|assumption)) (by have h_:((rd l1 0):Int) < ((y352.length:Int):Int):=of_decide_eq_true (by first|(with_reducible assumption)|assumption);first|exact h_|(have e_:=(Kd.N_reads' HO354.out).1;omega)|simpa using h_) (seg:= [.string t359, .string t360, .bool t361, .slice Ao35 t362.length co35]) (j:=0) hcl36 hcc36 (show 4≤4 from by decide) (x':=(⟨t359,t360,t361,t362⟩:S26)) (k26_mkF _ _ (⟨t359,t360,t361,t362⟩:S26) (Kd.V_reads' (Kd.V_mono (ok':=(fun k_=>((fun k_=>((P0_3_ k_∨P2_3_ k_)∨w.heap.size≤k_)∧k_≠gb346∧k_≠gb347∧k_≠gb348)) k_∧k_≠go19)) (HO364.out) (fun k_ hk=>(by exact ⟨⟨hk.1,⟨hk.2.2.1,⟨hk.2.2.2.1,hk.2.2.2.2⟩⟩⟩,fun e_=>(hk.2.1) (by rw [e_];rfl)⟩)))).2.1 (Kd.V_F (Kd.V_mono (ok':=(fun k_=>((fun k_=>((P0_3_ k_∨P2_3_ k_)∨w.heap.size≤k_)∧k_≠gb346∧k_≠gb347∧k_≠gb348)) k_∧k_≠go19)) (HO364.out) (fun k_ hk=>(by exact ⟨⟨hk.1,⟨hk.2.2.1,⟨hk.2.2.2.1,hk.2.2.2.2⟩⟩⟩,fun e_=>(hk.2.1) (by rw [e_];rfl)⟩))))) (fun _ hk=>hk)).1
       rw [← Ny365.out] at HP36
       have HQ36:=A0_ HP36
       clear hcl36 hcc36 hfr36 hM36 HP36
       refine hK.out _ _ ⟨(blk_cell BK346.out 0).trans rfl,(blk_cell BK346.out 1).trans rfl,(blk_cell BK346.out 2).trans rfl,(blk_cell BK346.out 3).trans rfl,(blk_cell BK347.out 0).trans rfl,(blk_cell BK347.out 1).trans rfl,(blk_cell BK347.out 2).trans rfl,(blk_cell BK347.out 3).trans rfl,((HB.out.cell (World.block_lt_of_cell? w _ hw355_0)).trans hw355_0),((HB.out.cell (World.block_lt_of_cell? w _ hw356_0)).trans hw356_0),HS10_,HS11_,HS12_,HS13_⟩ (fun hHeld=> ?_)
       clear hK K
       refine norm_ (a':= ?_) ?_ ?_
       rotate_left
       ·show Act.put _ (some 31) _=_
        simp only [Act.put,List.setIfInBounds_toArray,List.set_cons_zero,List.set_cons_succ,i64_w,i32_w]
        rfl
       refine pure_ (i:=16) (N:=some 32) (v:= ?_) (a':= ?_) #[true,true,true,true,true,true,true,true,true,true,true,true,true,true,true,true,true,false] rfl rfl (any_of HT_.out (by kernel_rfl)) (fun _ _ _ h=>h) (Or.inl ⟨by rfl, ?_⟩) ?_ ?_
       rotate_left
       ·intro w'
        go_simp
        with_reducible rfl
       rotate_left
       ·simp only [Act.put,List.setIfInBounds_toArray,List.set_cons_zero,List.set_cons_succ,i64_w,i32_w]
        rfl
       refine last_ (i:=17) (N:=none) #[true,true,true,true,true,true,true,true,true,true,true,true,true,true,true,true,true,true] rfl rfl (one_of HT_.out (by kernel_rfl)) (by decide) (fun K hK=> ?_)
       refine skip_ (w1:= ?_) (by rfl) rfl ?_ ?_
       rotate_left
       ·go_simp
        rfl
       refine hK.out _ _ ?_
       clear hK K
       refine done_ (done_of HT_.out (by kernel_rfl)) ?_
       have n0_:Aside0 (Kd.V k26 26 ((((w34.setCell ⟨go19,((rd l1 0):Int).toNat * 4,none⟩ (.string t359)).setCell ⟨go19,((rd l1 0):Int).toNat * 4 + 1,none⟩ (.string t360)).setCell ⟨go19,((rd l1 0):Int).toNat * 4 + 2,none⟩ (.bool t361)).setCell ⟨go19,((rd l1 0):Int).toNat * 4 + 3,none⟩ (.slice Ao35 t362.length co35)) w.heap.size (fun k_=>((P0_3_ k_∨P2_3_ k_)∨w.heap.size≤k_)∧some k_≠(.slice (some ⟨go19,0,none⟩) y352.length co29:Value).ownBlock∧k_≠gb346∧k_≠gb347∧k_≠gb348) (.slice A0_3 l0_3.length c0_3) l0_3):=⟨by (with_reducible repeat (first|apply Kd.V_alloc|apply Kd.V_drewN|apply Kd.V_drew));exact Kd.V_mono (Kd.V_far (p:=⟨go19,((rd l1 0):Int).toNat * 4 + 3,none⟩) (Kd.V_far (p:=⟨go19,((rd l1 0):Int).toNat * 4 + 2,none⟩) (Kd.V_far (p:=⟨go19,((rd l1 0):Int).toNat * 4 + 1,none⟩) (Kd.V_far (p:=⟨go19,((rd l1 0):Int).toNat * 4,none⟩) (Kd.V_mono HO0_3.out (fun k_ hk=>(⟨hk,fun e_=>hk.2.1 (by rw [e_];rfl)⟩:_∧k_≠go19))) (fun _ hk=>hk.2) (.string t359)) (fun _ hk=>hk.2) (.string t360)) (fun _ hk=>hk.2) (.bool t361)) (fun _ hk=>hk.2) (.slice Ao35 t362.length co35)) (fun _ hk=>⟨hk.1.1,⟨hk.1.2.1,⟨hk.1.2.2.1,⟨hk.1.2.2.2.1,hk.1.2.2.2.2⟩⟩⟩⟩)⟩
       have n1_:Aside0 (Kd.V k26 26 ((((w34.setCell ⟨go19,((rd l1 0):Int).toNat * 4,none⟩ (.string t359)).setCell ⟨go19,((rd l1 0):Int).toNat * 4 + 1,none⟩ (.string t360)).setCell ⟨go19,((rd l1 0):Int).toNat * 4 + 2,none⟩ (.bool t361)).setCell ⟨go19,((rd l1 0):Int).toNat * 4 + 3,none⟩ (.slice Ao35 t362.length co35)) w.heap.size (fun k_=>((P0_3_ k_∨P2_3_ k_)∨w.heap.size≤k_)∧some k_≠(.slice (some ⟨go19,0,none⟩) y352.length co29:Value).ownBlock∧k_≠gb346∧k_≠gb347∧k_≠gb348) (.slice A2_3 l2_3.length c2_3) l2_3):=⟨by (with_reducible repeat (first|apply Kd.V_alloc|apply Kd.V_drewN|apply Kd.V_drew));exact Kd.V_mono (Kd.V_far (p:=⟨go19,((rd l1 0):Int).toNat * 4 + 3,none⟩) (Kd.V_far (p:=⟨go19,((rd l1 0):Int).toNat * 4 + 2,none⟩) (Kd.V_far (p:=⟨go19,((rd l1 0):Int).toNat * 4 + 1,none⟩) (Kd.V_far (p:=⟨go19,((rd l1 0):Int).toNat * 4,none⟩) (Kd.V_mono HO2_3.out (fun k_ hk=>(⟨hk,fun e_=>hk.2.1 (by rw [e_];rfl)⟩:_∧k_≠go19))) (fun _ hk=>hk.2) (.string t359)) (fun _ hk=>hk.2) (.string t360)) (fun _ hk=>hk.2) (.bool t361)) (fun _ hk=>hk.2) (.slice Ao35 t362.length co35)) (fun _ hk=>⟨hk.1.1,⟨hk.1.2.1,⟨hk.1.2.2.1,⟨hk.1.2.2.2.1,hk.1.2.2.2.2⟩⟩⟩⟩)⟩
       have n2_:Aside0 (Kd.N k26 26 ((((w34.setCell ⟨go19,((rd l1 0):Int).toNat * 4,none⟩ (.string t359)).setCell ⟨go19,((rd l1 0):Int).toNat * 4 + 1,none⟩ (.string t360)).setCell ⟨go19,((rd l1 0):Int).toNat * 4 + 2,none⟩ (.bool t361)).setCell ⟨go19,((rd l1 0):Int).toNat * 4 + 3,none⟩ (.slice Ao35 t362.length co35)) w.heap.size (fun k_=>((P0_3_ k_∨P2_3_ k_)∨w.heap.size≤k_)∧k_≠gb346∧k_≠gb347∧k_≠gb348) (.slice (some ⟨go19,0,none⟩) y352.length co29) y365):=⟨by (with_reducible repeat (first|apply Kd.N_alloc|apply Kd.N_drewN|apply Kd.N_drew));exact HQ36.out⟩
       have n3_:Aside0 (Kd.V k26 26 ((((w34.setCell ⟨go19,((rd l1 0):Int).toNat * 4,none⟩ (.string t359)).setCell ⟨go19,((rd l1 0):Int).toNat * 4 + 1,none⟩ (.string t360)).setCell ⟨go19,((rd l1 0):Int).toNat * 4 + 2,none⟩ (.bool t361)).setCell ⟨go19,((rd l1 0):Int).toNat * 4 + 3,none⟩ (.slice Ao35 t362.length co35)) w.heap.size (fun k_=>((P0_3_ k_∨P2_3_ k_)∨w.heap.size≤k_)∧some k_≠(.slice (some ⟨go19,0,none⟩) y352.length co29:Value).ownBlock∧k_≠gb346∧k_≠gb347∧k_≠gb348) (.slice A357_3 ((rd_T26 y352 (rd l1 0)).f3).length c357_3) ((rd_T26 y352 (rd l1 0)).f3)):=⟨by (with_reducible repeat (first|apply Kd.V_alloc|apply Kd.V_drewN|apply Kd.V_drew));exact Kd.V_mono (Kd.V_far (p:=⟨go19,((rd l1 0):Int).toNat * 4 + 3,none⟩) (Kd.V_far (p:=⟨go19,((rd l1 0):Int).toNat * 4 + 2,none⟩) (Kd.V_far (p:=⟨go19,((rd l1 0):Int).toNat * 4 + 1,none⟩) (Kd.V_far (p:=⟨go19,((rd l1 0):Int).toNat * 4,none⟩) (Kd.V_mono HL357_3.out (fun k_ hk=>(⟨hk,fun e_=>hk.2 (by rw [e_];rfl)⟩:_∧k_≠go19))) (fun _ hk=>hk.2) (.string t359)) (fun _ hk=>hk.2) (.string t360)) (fun _ hk=>hk.2) (.bool t361)) (fun _ hk=>hk.2) (.slice Ao35 t362.length co35)) (fun _ hk=>⟨hk.1.1.1,⟨hk.1.2,⟨hk.1.1.2.1,⟨hk.1.1.2.2.1,hk.1.1.2.2.2⟩⟩⟩⟩)⟩
       have n4_:Aside0 (Kd.V k26 26 ((((w34.setCell ⟨go19,((rd l1 0):Int).toNat * 4,none⟩ (.string t359)).setCell ⟨go19,((rd l1 0):Int).toNat * 4 + 1,none⟩ (.string t360)).setCell ⟨go19,((rd l1 0):Int).toNat * 4 + 2,none⟩ (.bool t361)).setCell ⟨go19,((rd l1 0):Int).toNat * 4 + 3,none⟩ (.slice Ao35 t362.length co35)) w.heap.size (fun k_=>((P0_3_ k_∨P2_3_ k_)∨w.heap.size≤k_)∧some k_≠(.slice (some ⟨go19,0,none⟩) y352.length co29:Value).ownBlock∧k_≠gb346∧k_≠gb347∧k_≠gb348) (.slice Ao35 t362.length co35) t362):=⟨by (with_reducible repeat (first|apply Kd.V_alloc|apply Kd.V_drewN|apply Kd.V_drew));exact Kd.V_mono (Kd.V_far (p:=⟨go19,((rd l1 0):Int).toNat * 4 + 3,none⟩) (Kd.V_far (p:=⟨go19,((rd l1 0):Int).toNat * 4 + 2,none⟩) (Kd.V_far (p:=⟨go19,((rd l1 0):Int).toNat * 4 + 1,none⟩) (Kd.V_far (p:=⟨go19,((rd l1 0):Int).toNat * 4,none⟩) (Kd.V_mono HO364.out (fun k_ hk=>(⟨hk,fun e_=>hk.2.1 (by rw [e_];rfl)⟩:_∧k_≠go19))) (fun _ hk=>hk.2) (.string t359)) (fun _ hk=>hk.2) (.string t360)) (fun _ hk=>hk.2) (.bool t361)) (fun _ hk=>hk.2) (.slice Ao35 t362.length co35)) (fun _ hk=>⟨hk.1.1,⟨hk.1.2.1,⟨hk.1.2.2.1,⟨hk.1.2.2.2.1,hk.1.2.2.2.2⟩⟩⟩⟩)⟩
       have n5_:Aside0 (((((w34.setCell ⟨go19,((rd l1 0):Int).toNat * 4,none⟩ (.string t359)).setCell ⟨go19,((rd l1 0):Int).toNat * 4 + 1,none⟩ (.string t360)).setCell ⟨go19,((rd l1 0):Int).toNat * 4 + 2,none⟩ (.bool t361)).setCell ⟨go19,((rd l1 0):Int).toNat * 4 + 3,none⟩ (.slice Ao35 t362.length co35)).heap[gb346]?= some (.cells #[.string a0_0, .string a0_1, .bool a0_2, .slice (some ⟨go19,0,none⟩) y352.length co29] 26 (0,0))):=⟨by (with_reducible repeat (first|refine blk_drewN ?_ _|refine blk_drew ?_|refine blk_alloc ?_ _));refine blk_far ?_ (by have h_:=Kd.N_away (g:=gb346) HO354.out (fun _ hk=>hk.2.1);intro e_;exact h_ (by rw [e_];rfl)) _;(with_reducible repeat (first|refine blk_drewN ?_ _|refine blk_drew ?_|refine blk_alloc ?_ _));refine blk_far ?_ (by have h_:=Kd.N_away (g:=gb346) HO354.out (fun _ hk=>hk.2.1);intro e_;exact h_ (by rw [e_];rfl)) _;(with_reducible repeat (first|refine blk_drewN ?_ _|refine blk_drew ?_|refine blk_alloc ?_ _));refine blk_far ?_ (by have h_:=Kd.N_away (g:=gb346) HO354.out (fun _ hk=>hk.2.1);intro e_;exact h_ (by rw [e_];rfl)) _;(with_reducible repeat (first|refine blk_drewN ?_ _|refine blk_drew ?_|refine blk_alloc ?_ _));refine blk_far ?_ (by have h_:=Kd.N_away (g:=gb346) HO354.out (fun _ hk=>hk.2.1);intro e_;exact h_ (by rw [e_];rfl)) _;(with_reducible repeat (first|refine blk_drewN ?_ _|refine blk_drew ?_|refine blk_alloc ?_ _));exact BK346.out⟩
       have n6_:Aside0 (((((w34.setCell ⟨go19,((rd l1 0):Int).toNat * 4,none⟩ (.string t359)).setCell ⟨go19,((rd l1 0):Int).toNat * 4 + 1,none⟩ (.string t360)).setCell ⟨go19,((rd l1 0):Int).toNat * 4 + 2,none⟩ (.bool t361)).setCell ⟨go19,((rd l1 0):Int).toNat * 4 + 3,none⟩ (.slice Ao35 t362.length co35)).heap[gb347]?= some (.cells #[.string a2_0, .string a2_1, .bool a2_2, .slice A2_3 l2_3.length c2_3] 26 (0,0))):=⟨by (with_reducible repeat (first|refine blk_drewN ?_ _|refine blk_drew ?_|refine blk_alloc ?_ _));refine blk_far ?_ (by have h_:=Kd.N_away (g:=gb347) HO354.out (fun _ hk=>hk.2.2.1);intro e_;exact h_ (by rw [e_];rfl)) _;(with_reducible repeat (first|refine blk_drewN ?_ _|refine blk_drew ?_|refine blk_alloc ?_ _));refine blk_far ?_ (by have h_:=Kd.N_away (g:=gb347) HO354.out (fun _ hk=>hk.2.2.1);intro e_;exact h_ (by rw [e_];rfl)) _;(with_reducible repeat (first|refine blk_drewN ?_ _|refine blk_drew ?_|refine blk_alloc ?_ _));refine blk_far ?_ (by have h_:=Kd.N_away (g:=gb347) HO354.out (fun _ hk=>hk.2.2.1);intro e_;exact h_ (by rw [e_];rfl)) _;(with_reducible repeat (first|refine blk_drewN ?_ _|refine blk_drew ?_|refine blk_alloc ?_ _));refine blk_far ?_ (by have h_:=Kd.N_away (g:=gb347) HO354.out (fun _ hk=>hk.2.2.1);intro e_;exact h_ (by rw [e_];rfl)) _;(with_reducible repeat (first|refine blk_drewN ?_ _|refine blk_drew ?_|refine blk_alloc ?_ _));exact BK347.out⟩
       have n7_:Aside0 (((((w34.setCell ⟨go19,((rd l1 0):Int).toNat * 4,none⟩ (.string t359)).setCell ⟨go19,((rd l1 0):Int).toNat * 4 + 1,none⟩ (.string t360)).setCell ⟨go19,((rd l1 0):Int).toNat * 4 + 2,none⟩ (.bool t361)).setCell ⟨go19,((rd l1 0):Int).toNat * 4 + 3,none⟩ (.slice Ao35 t362.length co35)).heap[gb348]?= some (.cells #[.string (⟨#[]⟩:ByteArray), .string (⟨#[]⟩:ByteArray), .bool false, .slice none 0 0] 26 (0,0))):=⟨by (with_reducible repeat (first|refine blk_drewN ?_ _|refine blk_drew ?_|refine blk_alloc ?_ _));refine blk_far ?_ (by have h_:=Kd.N_away (g:=gb348) HO354.out (fun _ hk=>hk.2.2.2);intro e_;exact h_ (by rw [e_];rfl)) _;(with_reducible repeat (first|refine blk_drewN ?_ _|refine blk_drew ?_|refine blk_alloc ?_ _));refine blk_far ?_ (by have h_:=Kd.N_away (g:=gb348) HO354.out (fun _ hk=>hk.2.2.2);intro e_;exact h_ (by rw [e_];rfl)) _;(with_reducible repeat (first|refine blk_drewN ?_ _|refine blk_drew ?_|refine blk_alloc ?_ _));refine blk_far ?_ (by have h_:=Kd.N_away (g:=gb348) HO354.out (fun _ hk=>hk.2.2.2);intro e_;exact h_ (by rw [e_];rfl)) _;(with_reducible repeat (first|refine blk_drewN ?_ _|refine blk_drew ?_|refine blk_alloc ?_ _));refine blk_far ?_ (by have h_:=Kd.N_away (g:=gb348) HO354.out (fun _ hk=>hk.2.2.2);intro e_;exact h_ (by rw [e_];rfl)) _;(with_reducible repeat (first|refine blk_drewN ?_ _|refine blk_drew ?_|refine blk_alloc ?_ _));exact BK348.out⟩
       have n8_:Aside0 (Below w.heap.size w ((((w34.setCell ⟨go19,((rd l1 0):Int).toNat * 4,none⟩ (.string t359)).setCell ⟨go19,((rd l1 0):Int).toNat * 4 + 1,none⟩ (.string t360)).setCell ⟨go19,((rd l1 0):Int).toNat * 4 + 2,none⟩ (.bool t361)).setCell ⟨go19,((rd l1 0):Int).toNat * 4 + 3,none⟩ (.slice Ao35 t362.length co35))):=⟨by repeat (first|(with_reducible first|exact HB.out|apply below_alloc|apply pw_below_drewN|apply below_drew1|refine below_set ?_ GB19.out|refine below_set ?_ GB19.out|refine below_set ?_ GB19.out|refine below_set ?_ GB19.out|refine below_set ?_ GE346.out|refine below_set ?_ GE347.out|refine below_set ?_ GE348.out)|exact HB.out)⟩
       (try clear HO0_3)
       (try clear HO2_3)
       (try clear HO354)
       (try clear HL357_3)
       (try clear HO364)
       (try clear BK346)
       (try clear BK347)
       (try clear BK348)
       (try clear HB)
       generalize ((((w34.setCell ⟨go19,((rd l1 0):Int).toNat * 4,none⟩ (.string t359)).setCell ⟨go19,((rd l1 0):Int).toNat * 4 + 1,none⟩ (.string t360)).setCell ⟨go19,((rd l1 0):Int).toNat * 4 + 2,none⟩ (.bool t361)).setCell ⟨go19,((rd l1 0):Int).toNat * 4 + 3,none⟩ (.slice Ao35 t362.length co35))=w37 at n0_ n1_ n2_ n3_ n4_ n5_ n6_ n7_ n8_ ⊢
       have HO0_3:=n0_
       have HO2_3:=n1_
       have HO354:=n2_
       have HL357_3:=n3_
       have HO364:=n4_
       have BK346:=n5_
       have BK347:=n6_
       have BK348:=n7_
       have HB:=n8_
       clear n0_ n1_ n2_ n3_ n4_ n5_ n6_ n7_ n8_
       obtain ⟨hcz38_0,hcz38_1,hcz38_2,hcz38_3⟩:=bc4_ BK346.out
       obtain ⟨hfz38_0,hfz38_1,hfz38_2,hfz38_3⟩:=bf4_ BK346.out
       have hnb39:=NB348_347.out
       have hnc39:=NB347_348.out
       obtain ⟨hcz40_0,hcz40_1,hcz40_2,hcz40_3⟩:=bc4_ BK348.out
       obtain ⟨hfz40_0,hfz40_1,hfz40_2,hfz40_3⟩:=bf4_ BK348.out
       try go_wp2
       refine bodyPost_ret (results_cell_row rfl _ _ gb348 26 #[.string a0_0, .string a0_1, .bool a0_2, .slice (some ⟨go19,0,none⟩) y352.length co29] (0,0) _ rfl (by (with_reducible repeat (first|refine blk_drewN ?_ _|refine blk_drew ?_|refine blk_alloc ?_ _));refine blk_put (cs:= #[.string a0_0, .string a0_1, .bool a0_2, .slice none 0 0]) ?_ 3 _ rfl;(with_reducible repeat (first|refine blk_drewN ?_ _|refine blk_drew ?_|refine blk_alloc ?_ _));refine blk_put (cs:= #[.string a0_0, .string a0_1, .bool false, .slice none 0 0]) ?_ 2 _ rfl;(with_reducible repeat (first|refine blk_drewN ?_ _|refine blk_drew ?_|refine blk_alloc ?_ _));refine blk_put (cs:= #[.string a0_0, .string (⟨#[]⟩:ByteArray), .bool false, .slice none 0 0]) ?_ 1 _ rfl;(with_reducible repeat (first|refine blk_drewN ?_ _|refine blk_drew ?_|refine blk_alloc ?_ _));refine blk_put (cs:= #[.string (⟨#[]⟩:ByteArray), .string (⟨#[]⟩:ByteArray), .bool false, .slice none 0 0]) ?_ 0 _ rfl;(with_reducible repeat (first|refine blk_drewN ?_ _|refine blk_drew ?_|refine blk_alloc ?_ _));exact BK348.out) Try.underlying26 rfl (by kernel_rfl)) rfl ?_
       exact ⟨_,by first|rfl|(simp [errW_none,errW_some] <;> rfl)|(simp [*,errW_none,errW_some] <;> rfl),Kd.N_V (Kd.N_mono (Kd.N_far (p:=⟨gb348,3,none⟩) (Kd.N_far (p:=⟨gb348,2,none⟩) (Kd.N_far (p:=⟨gb348,1,none⟩) (Kd.N_far (p:=⟨gb348,0,none⟩) (Kd.N_mono HO354.out (fun k_ hk=>(⟨hk,hk.2.2.2⟩:_∧k_≠gb348))) (fun _ hk=>hk.2) (.string a0_0)) (fun _ hk=>hk.2) (.string a0_1)) (fun _ hk=>hk.2) (.bool a0_2)) (fun _ hk=>hk.2) (.slice (some ⟨go19,0,none⟩) y352.length co29)) (fun _ hk=>hk.1.1)),by repeat (first|(with_reducible first|exact HB.out|apply below_alloc|apply pw_below_drewN|apply below_drew1|refine below_set ?_ GE346.out|refine below_set ?_ GE347.out|refine below_set ?_ GE348.out)|exact HB.out)⟩
      ·rw [if_neg c17] at H
       exact absurd H (by simp)
     ·rw [if_neg c16] at H
      exact absurd H (by simp)
    ·rw [if_neg c15] at H
     exact absurd H (by simp)
   ·rw [if_neg c14] at H
    exact absurd H (by simp)
  ·rw [if_neg c13] at H
   exact absurd H (by simp)
end Go.Proofs.Ytakpkmkjhndpjaa.Q
end
section
namespace Go.Proofs.Ytakpkmkjhndpjaa.Q
open Go.RowKit Go.Proofs.YtakpkmkjhndpjaaW.PrintWords Go.Proofs.YtakpkmkjhndpjaaW.PrintLast Go.Proofs.YtakpkmkjhndpjaaW.PrintMore
attribute [local go_sem] max2_int min2_int max_two min_two max_three min_three max_four min_four
set_option linter.unusedVariables false
set_option linter.unusedSimpArgs false
mutual
def spec_l01Copy.l0:Nat→List (S26)→Int→ByteArray→ByteArray→Bool→List (S26)→Option (ByteArray × ByteArray × Bool × (List (S26)))
 |0,_,_,_,_,_,_=>none
 |k + 1,x3,x4,x367000,x367001,x367002,x367003=>if x4 < (x367003.length:Int) then (if 0≤x4 then ((spec_l01Copy.f k ((rd_T26 x367003 x4).f0) ((rd_T26 x367003 x4).f1) ((rd_T26 x367003 x4).f2) ((rd_T26 x367003 x4).f3)).bind fun bt372=>(if x3.length < 2199023255552 then (spec_l01Copy.l0 k (x3 ++ [(⟨bt372.1,bt372.2.1,bt372.2.2.1,bt372.2.2.2⟩:S26)]) (wrap64 (x4 + 1)) x367000 x367001 x367002 x367003) else (none))) else (none)) else (some (x367000,x367001,x367002,x3))
def spec_l01Copy.f:Nat→ByteArray→ByteArray→Bool→List (S26)→Option (ByteArray × ByteArray × Bool × (List (S26)))
 |0,_,_,_,_=>none
 |k + 1,a0_0,a0_1,a0_2,l0_3=>spec_l01Copy.l0 k (([]:List (S26))) 0 a0_0 a0_1 a0_2 l0_3
end
set_option maxHeartbeats 8000000 in
set_option maxRecDepth 100000 in
theorem spec_l01Copy.calls (k:Nat): ∀ (a0_0:ByteArray) (a0_1:ByteArray) (a0_2:Bool) (A0_3:Option Addr) (c0_3:Nat) (l0_3:List (S26)) (r1:ByteArray) (r2:ByteArray) (r3:Bool) (r4:List (S26)) (w:World) (hr0_3:Kd.C k26 w A0_3 l0_3.length l0_3) (hc0_3:l0_3.length≤c0_3) (h:spec_l01Copy.f k a0_0 a0_1 a0_2 l0_3=some (r1,r2,r3,r4)),
  Calls Try.prog 44 #[.agg #[.string a0_0, .string a0_1, .bool a0_2, .slice A0_3 l0_3.length c0_3]] w fun e w'=> ∃ v3_:Value,e= .returned (.agg #[.string r1, .string r2, .bool r3,v3_])∧Kd.R k26 26 w' w.heap.size (fun _=>True) v3_ r4∧Below w.heap.size w w':=by
 induction k using Nat.strongRecOn with
 |_ k ih=>
 intro a0_0 a0_1 a0_2 A0_3 c0_3 l0_3 r1 r2 r3 r4 w hr0_3 hc0_3 h
 cases k with
 |zero=>exact absurd h (by simp [spec_l01Copy.f])
 |succ k=>
 simp only [spec_l01Copy.f] at h
 have hu26:=Try.underlying26
 have HR0_3:=A0_ hr0_3
 have HC0_3:=A0_ hc0_3
 clear hr0_3 hc0_3
 have HB:=A0_ (Below.refl w.heap.size w)
 have H:(spec_l01Copy.l0 k (([]:List (S26))) 0 a0_0 a0_1 a0_2 l0_3)=some (r1,r2,r3,r4):=h
 clear h
 obtain ⟨y368,hy368⟩: ∃ y_:List (S26),y_=(([]:List (S26))):=⟨_,rfl⟩
 replace H:(spec_l01Copy.l0 k y368 0 a0_0 a0_1 a0_2 l0_3)=some (r1,r2,r3,r4):=by first|(rw [hy368];with_reducible exact H)|(have H2_:=(Option.bind_some _ _).symm.trans H;rw [hy368];with_reducible exact H2_)|(have H2_:=(Option.bind_some _ _).symm.trans H;with_reducible exact H2_)|with_reducible exact H|(rw [hy368];exact H)|exact H
 have Ny368:=A0_ hy368
 clear hy368
 have H':=A0_ H
 clear H
 go_enter Try.func44,Try.ntmps44
 go_wp2_with (first|((with_reducible refine gate_dst (N:=1) rfl ?_);refine box_event ?hg (N:=1) ?hd (cs:= #[.string a0_0, .string a0_1, .bool a0_2, .slice A0_3 l0_3.length c0_3]) (t:=26) ?hr ?_;(case hd=>rfl);(case hg=>rfl);(case hr=>first|(go_simp;done)|(go_simp;rfl));intro gb366 hg w2 hbox hb;have BK366:=A0_ (hbox);have GW366:=A0_ ((by rw [hg];exact (below_size HB.out):w.heap.size≤gb366));have GE366:=A0_ ((by rw [hg];exact (below_size HB.out):w.heap.size≤gb366));replace HB:=A0_ (below_step HB.out hb);clear hb hbox hg)|((with_reducible refine gate_dst (N:=2) rfl ?_);refine box_event ?hg (N:=2) ?hd (cs:= #[.string (⟨#[]⟩:ByteArray), .string (⟨#[]⟩:ByteArray), .bool false, .slice none 0 0]) (t:=26) ?hr ?_;(case hd=>rfl);(case hg=>rfl);(case hr=>first|(go_simp;done)|(go_simp;rfl));intro gb367 hg w3 hbox hb;have BK367:=A0_ (hbox);have GW367:=A0_ ((by rw [hg];exact (below_size HB.out):w.heap.size≤gb367));have GE367:=A0_ ((by rw [hg];exact (below_size HB.out):w.heap.size≤gb367));replace HB:=A0_ (below_step HB.out hb);have NB366_367:=A0_ ((by rw [hg];exact Nat.ne_of_lt (blk_lt BK366.out):gb366≠gb367));have NB367_366:=A0_ ((by rw [hg];exact Nat.ne_of_gt (blk_lt BK366.out):gb367≠gb366));replace BK366:=A0_ (blk_below BK366.out hb);clear hb hbox hg)|((with_reducible refine gate_dst (N:=5) rfl ?_);refine Kd.R_lit k26 _ 26 ?hg (N:=5) ?hd (xs:=([]:List (S26))) (inner:= []) (ok:=fun _=>True) (okp:=fun _=>True) ?hr ?hp (fun _ hk=>hk) trivial (Below.refl _ _) (Nat.le_refl _) (by simp) ?_;(case hd=>rfl);(case hg=>rfl);(case hr=>first|(go_simp;done)|(go_simp;rfl));(case hp=>exact (Reps.none _ _));intro v369 w4 ho5 hb hg_ hnew_;clear hg_ hnew_;(first|rw [← Ny368.out] at ho5|(simp only [Int.reduceToNat] at ho5;rw [← Ny368.out] at ho5));have HO370:=A0_ (Kd.R_lower (Kd.R_newB (Kd.R_newB ho5 BK366.out) BK367.out) (below_size HB.out));replace BK366:=A0_ (blk_below BK366.out hb);replace BK367:=A0_ (blk_below BK367.out hb);replace HB:=A0_ (below_step HB.out hb);clear hb ho5))
 go_loopg [3,4] k (fun kq v3 v4 w'=> ∃ (x3_1:List (S26)) (x4_1:Int),v4= .int .i64 x4_1∧Aside0 (spec_l01Copy.l0 kq x3_1 x4_1 a0_0 a0_1 a0_2 l0_3=some (r1,r2,r3,r4))∧Aside0 (kq≤k)∧Aside0 (Kd.R k26 26 w' w.heap.size (fun k_=>k_≠gb366∧k_≠gb367) v3 x3_1)∧Aside0 (w'.heap[gb366]?= some (.cells #[.string a0_0, .string a0_1, .bool a0_2,(.slice A0_3 l0_3.length c0_3)] 26 (0,0)))∧Aside0 (w'.heap[gb367]?= some (.cells #[.string (⟨#[]⟩:ByteArray), .string (⟨#[]⟩:ByteArray), .bool false,(.slice none 0 0)] 26 (0,0)))∧Aside0 (Below w.heap.size w w'))
 case atStart=>exact ⟨(y368),(0),(by first|rfl|(simp;done)|(simp [*];done)|(simp [bne];done)|(simp [bne, *];done)),H',⟨Nat.le_refl _⟩,⟨by (with_reducible repeat (first|apply Kd.R_alloc|apply Kd.R_drewN|apply Kd.R_drew));exact Kd.R_mono HO370.out (fun _ hk=>⟨hk.1.2,hk.2⟩)⟩,⟨by (with_reducible repeat (first|refine blk_drewN ?_ _|refine blk_drew ?_|refine blk_alloc ?_ _));exact BK366.out⟩,⟨by (with_reducible repeat (first|refine blk_drewN ?_ _|refine blk_drew ?_|refine blk_alloc ?_ _));exact BK367.out⟩,⟨by repeat (first|(with_reducible first|exact HB.out|apply below_alloc|apply pw_below_drewN|apply below_drew1|refine below_set ?_ GE366.out|refine below_set ?_ GE367.out)|exact HB.out)⟩⟩
 case round=>
  clear H'
  try clear p2
  try clear c4
  obtain ⟨x3_1,x4_1,rfl,HA,HK1,HO_3,BK366,BK367,HB⟩:=hrel
  cases gk with
  |zero=>exact absurd HA.out (by simp [spec_l01Copy.l0])
  |succ k1=>
   have H:=HA.out
   clear HA
   simp only [spec_l01Copy.l0] at H
   by_cases c6:x4_1 < (l0_3.length:Int)
   ·rw [if_pos c6] at H
    have c6b0:decide (x4_1 < (l0_3.length:Int))=true:=decide_eq_true c6
    clear c6
    by_cases c7:0≤x4_1
    ·rw [if_pos c7] at H
     have c7b0:decide (0≤x4_1)=true:=decide_eq_true c7
     clear c7
     replace H:=Option.bind_eq_some_iff.mp H
     obtain ⟨⟨t372,t373,t374,t375⟩,A80,H⟩:=H
     replace H:(if x3_1.length < 2199023255552 then (spec_l01Copy.l0 k1 (x3_1 ++ [(⟨t372,t373,t374,t375⟩:S26)]) (wrap64 (x4_1 + 1)) a0_0 a0_1 a0_2 l0_3) else (none))=some (r1,r2,r3,r4):=H
     have A8:=A0_ A80
     clear A80
     by_cases c9:x3_1.length < 2199023255552
     ·rw [if_pos c9] at H
      have LMc9:=A0_ c9
      clear c9
      obtain ⟨y378,hy378⟩: ∃ y_:List (S26),y_=(x3_1 ++ [(⟨t372,t373,t374,t375⟩:S26)]):=⟨_,rfl⟩
      replace H:(spec_l01Copy.l0 k1 y378 (wrap64 (x4_1 + 1)) a0_0 a0_1 a0_2 l0_3)=some (r1,r2,r3,r4):=by first|(rw [hy378];with_reducible exact H)|(have H2_:=(Option.bind_some _ _).symm.trans H;rw [hy378];with_reducible exact H2_)|(have H2_:=(Option.bind_some _ _).symm.trans H;with_reducible exact H2_)|with_reducible exact H|(rw [hy378];exact H)|exact H
      have Ny378:=A0_ hy378
      clear hy378
      have H':=A0_ H
      clear H
      have hnb10:=NB366_367.out
      have hnc10:=NB367_366.out
      obtain ⟨hcz11_0,hcz11_1,hcz11_2,hcz11_3⟩:=bc4_ BK366.out
      obtain ⟨hfz11_0,hfz11_1,hfz11_2,hfz11_3⟩:=bf4_ BK366.out
      have p371:0≤(x4_1:Int):=of_decide_eq_true (by first|(with_reducible assumption)|assumption)
      have q371:x4_1 < (l0_3.length:Int):=of_decide_eq_true (by first|(with_reducible assumption)|assumption)
      obtain ⟨ad371,A371_3,c371_3,e371,hx371_0,hx371_1,hx371_2,hx371_3,hl371_3,hi371_3⟩:=at_T26 HR0_3.out x4_1 p371 q371
      have hk371_3:=hx371_3
      cases e371
      replace hx371_0:=(HB.out.cell (World.block_lt_of_cell? w _ hx371_0)).trans hx371_0
      replace hx371_1:=(HB.out.cell (World.block_lt_of_cell? w _ hx371_1)).trans hx371_1
      replace hx371_2:=(HB.out.cell (World.block_lt_of_cell? w _ hx371_2)).trans hx371_2
      replace hx371_3:=(HB.out.cell (World.block_lt_of_cell? w _ hx371_3)).trans hx371_3
      have HR371_3:=A0_ hi371_3
      have HC371_3:=A0_ hl371_3
      clear hi371_3 hl371_3
      replace p371:=eq_true p371
      replace q371:=eq_true q371
      go_wp2_with (first|((with_reducible refine gate_callee (f:=44) rfl ?_);refine goesL_ (some 19) rfl rfl Try.func44 (by kernel_rfl) rfl #[.agg #[.string ((rd_T26 l0_3 x4_1).f0), .string ((rd_T26 l0_3 x4_1).f1), .bool ((rd_T26 l0_3 x4_1).f2), .slice A371_3 ((rd_T26 l0_3 x4_1).f3).length c371_3]] rfl (by (try simp only [List.map_toArray,List.map_cons,List.map_nil]);first|done|rfl|(simp only [List.length_drop,List.length_take];rfl)) ?_;(with_reducible refine (ih k1 (by have:=HK1.out;omega) ((rd_T26 l0_3 x4_1).f0) ((rd_T26 l0_3 x4_1).f1) ((rd_T26 l0_3 x4_1).f2) _ _ ((rd_T26 l0_3 x4_1).f3) t372 t373 t374 t375 _ ?side1 ?side2 A8.out).mono ?_);(case side1=>repeat (first|exact (Kd.C_below HR371_3.out HB.out)|(with_reducible refine Kd.C_alloc ?_ _)|(with_reducible refine Kd.C_drewN ?_ _)|(with_reducible refine Kd.C_drew ?_)));(case side2=>exact HC371_3.out);rintro e w12 ⟨v376,rfl,ho0,hb⟩;refine ⟨_,rfl, ?_⟩;have HO377:=A0_ (Kd.R_lower (Kd.R_newB (Kd.R_newB (Kd.R_new' ho0 (Kd.R_lt HO_3.out)) BK366.out) BK367.out) (below_size HB.out));replace HO_3:=A0_ (Kd.R_elder' HO_3.out (Kd.R_base ho0) hb);replace BK366:=A0_ (blk_below BK366.out hb);replace BK367:=A0_ (blk_below BK367.out hb);replace HB:=A0_ (below_step HB.out hb);(try clear hb);(try clear hb2);(try clear hk);(try clear hi);(try clear ho0);obtain ⟨Ao14,co14,eo14⟩:=Kd.R_slice HO377.out;subst eo14)|((with_reducible refine gate_builtin (b:= .append) (xs:= #[.tmp 13, .tmp 20]) rfl ?_);at_builtin;refine Kd.R_append k26 (w0:=w) w.heap.size rfl (.tmp 13) (.tmp 20) 24 26 (.agg #[(.string ⟨#[]⟩),(.string ⟨#[]⟩),(.bool false),(.slice none 0 0)]) 64 rfl Try.underlying24 info26 rfl (by decide) (by omega) u3 x3_1 (⟨t372,t373,t374,t375⟩:S26) [.string t372, .string t373, .bool t374, .slice Ao14 t375.length co14] (fun k_=>k_≠gb366∧k_≠gb367) (fun k_=>((fun k_=>k_≠gb366∧k_≠gb367)) k_∧some k_≠(u3:Value).ownBlock) rfl rfl ?aP (fun _ hk=>hk) ?aF ?aO ?aB ?aS ?aL ?_;(case aP=>exact k26_mkM _ _ _ (⟨t372,t373,t374,t375⟩:S26) (Kd.R_mono (HO377.out) (fun k_ hk=>⟨⟨hk.1.2,hk.2⟩,hk.1.1.2⟩)));(case aB=>exact HB.out);(case aF=>exact (fun k_ hk=>⟨Kd.freshB (g:=gb366) (o:= .cells #[.string a0_0, .string a0_1, .bool a0_2, .slice (some ad371) l0_3.length c0_3] 26 (0,0)) BK366.out k_ hk,Kd.freshB (g:=gb367) (o:= .cells #[.string (⟨#[]⟩:ByteArray), .string (⟨#[]⟩:ByteArray), .bool false, .slice none 0 0] 26 (0,0)) BK367.out k_ hk⟩));(case aO=>exact (Kd.R_mono HO_3.out (fun _ hk=>⟨hk.1.1,hk.1.2⟩)));(case aS=>exact (below_size HB.out));(case aL=>have:=LMc9.out;omega);intro v379 w13 ho hb hg hat;rw [← Ny378.out] at ho;have n0_:=A0_ (blk_grown BK366.out hg (Kd.R_away HO_3.out (fun _ hk=>hk.1.1)));have n1_:=A0_ (blk_grown BK367.out hg (Kd.R_away HO_3.out (fun _ hk=>hk.1.2)));have n2_:=A0_ (hb);have n3_:=A0_ (ho);clear BK366;clear BK367;clear HB;clear HO_3;clear HO377;have BK366:=n0_;have BK367:=n1_;have HB:=n2_;have HO380:=n3_;clear n0_ n1_ n2_ n3_;clear ho hb hg hat))
      go_roundg k1
      case measure=>have:=HK1.out;omega
      case rel=>exact ⟨(y378),(wrap64 (x4_1 + 1)),(by first|rfl|(simp;done)|(simp [*];done)|(simp [bne];done)|(simp [bne, *];done)),H',⟨by have:=HK1.out;omega⟩,⟨by (with_reducible repeat (first|apply Kd.R_alloc|apply Kd.R_drewN|apply Kd.R_drew));exact HO380.out⟩,⟨by (with_reducible repeat (first|refine blk_drewN ?_ _|refine blk_drew ?_|refine blk_alloc ?_ _));exact BK366.out⟩,⟨by (with_reducible repeat (first|refine blk_drewN ?_ _|refine blk_drew ?_|refine blk_alloc ?_ _));exact BK367.out⟩,⟨by repeat (first|(with_reducible first|exact HB.out|apply below_alloc|apply pw_below_drewN|apply below_drew1|refine below_set ?_ GE366.out|refine below_set ?_ GE367.out)|exact HB.out)⟩⟩
     ·rw [if_neg c9] at H
      exact absurd H (by simp)
    ·rw [if_neg c7] at H
     exact absurd H (by simp)
   ·rw [if_neg c6] at H
    have c6b0:decide (x4_1 < (l0_3.length:Int))=false:=decide_eq_false c6
    clear c6
    simp only [Option.some.injEq,Prod.mk.injEq] at H
    obtain ⟨rfl,rfl,rfl,rfl⟩:=H
    have hnb15:=NB366_367.out
    have hnc15:=NB367_366.out
    obtain ⟨hcz16_0,hcz16_1,hcz16_2,hcz16_3⟩:=bc4_ BK366.out
    obtain ⟨hfz16_0,hfz16_1,hfz16_2,hfz16_3⟩:=bf4_ BK366.out
    obtain ⟨Ao17,co17,eo17⟩:=Kd.R_slice HO_3.out
    subst eo17
    obtain ⟨hcz18_0,hcz18_1,hcz18_2,hcz18_3⟩:=bc4_ BK367.out
    obtain ⟨hfz18_0,hfz18_1,hfz18_2,hfz18_3⟩:=bf4_ BK367.out
    go_wp2
    refine bodyPost_ret (results_cell_row rfl _ _ gb367 26 #[.string a0_0, .string a0_1, .bool a0_2, .slice Ao17 x3_1.length co17] (0,0) _ rfl (by (with_reducible repeat (first|refine blk_drewN ?_ _|refine blk_drew ?_|refine blk_alloc ?_ _));refine blk_put (cs:= #[.string a0_0, .string a0_1, .bool a0_2, .slice none 0 0]) ?_ 3 _ rfl;(with_reducible repeat (first|refine blk_drewN ?_ _|refine blk_drew ?_|refine blk_alloc ?_ _));refine blk_put (cs:= #[.string a0_0, .string a0_1, .bool false, .slice none 0 0]) ?_ 2 _ rfl;(with_reducible repeat (first|refine blk_drewN ?_ _|refine blk_drew ?_|refine blk_alloc ?_ _));refine blk_put (cs:= #[.string a0_0, .string (⟨#[]⟩:ByteArray), .bool false, .slice none 0 0]) ?_ 1 _ rfl;(with_reducible repeat (first|refine blk_drewN ?_ _|refine blk_drew ?_|refine blk_alloc ?_ _));refine blk_put (cs:= #[.string (⟨#[]⟩:ByteArray), .string (⟨#[]⟩:ByteArray), .bool false, .slice none 0 0]) ?_ 0 _ rfl;(with_reducible repeat (first|refine blk_drewN ?_ _|refine blk_drew ?_|refine blk_alloc ?_ _));refine blk_far ?_ NB367_366.out _;(with_reducible repeat (first|refine blk_drewN ?_ _|refine blk_drew ?_|refine blk_alloc ?_ _));exact BK367.out) Try.underlying26 rfl (by kernel_rfl)) rfl ?_
    exact ⟨_,by first|rfl|(simp [errW_none,errW_some] <;> rfl)|(simp [*,errW_none,errW_some] <;> rfl),by (with_reducible repeat (first|apply Kd.R_alloc|apply Kd.R_drewN|apply Kd.R_drew));exact Kd.R_mono (Kd.R_far (p:=⟨gb367,3,none⟩) (Kd.R_far (p:=⟨gb367,2,none⟩) (Kd.R_far (p:=⟨gb367,1,none⟩) (Kd.R_far (p:=⟨gb367,0,none⟩) (Kd.R_far (p:=⟨gb366,3,none⟩) (Kd.R_mono (Kd.R_mono HO_3.out (fun k_ hk=>(⟨hk,hk.1⟩:_∧k_≠gb366))) (fun k_ hk=>(⟨hk,hk.1.2⟩:_∧k_≠gb367))) (fun _ hk=>hk.1.2) (.slice Ao17 x3_1.length co17)) (fun _ hk=>hk.2) (.string a0_0)) (fun _ hk=>hk.2) (.string a0_1)) (fun _ hk=>hk.2) (.bool a0_2)) (fun _ hk=>hk.2) (.slice Ao17 x3_1.length co17)) (fun _ hk=>trivial),by repeat (first|(with_reducible first|exact HB.out|apply below_alloc|apply pw_below_drewN|apply below_drew1|refine below_set ?_ GE366.out|refine below_set ?_ GE367.out)|exact HB.out)⟩
end Go.Proofs.Ytakpkmkjhndpjaa.Q
end
