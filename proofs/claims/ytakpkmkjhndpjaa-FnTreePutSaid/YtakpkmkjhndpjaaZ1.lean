/- Texts of one claim laid one behind the other: plain functions that answer as the program's functions do, and the proofs that they do. No condition of its own. -/
import Derived.Test.YtakpkmkjhndpjaaZ0
section
namespace Go.Proofs.Ytakpkmkjhndpjaa.Q
open Go.RowKit Go.Proofs.YtakpkmkjhndpjaaW.PrintWords Go.Proofs.YtakpkmkjhndpjaaW.PrintLast Go.Proofs.YtakpkmkjhndpjaaW.PrintMore
attribute [local go_sem] max2_int min2_int max_two min_two max_three min_three max_four min_four
set_option linter.unusedVariables false
set_option linter.unusedSimpArgs false
mutual
def spec_l01DrawAny.l0:Nat→Int→List Int→Int→Int→ByteArray→ByteArray→Bool→List (S26)→Option (ByteArray × ByteArray × Bool × (List (S26)) × Int × Int)
 |0,_,_,_,_,_,_,_,_=>none
 |k + 1,x4,x1000,x1001,x1002,x182000,x182001,x182002,x182003=>(spec_l01Cur_pick.f x1000 x1001 x1002 2).bind fun bt201=>(if x4 < (wrap64 (60 + bt201.1)) then ((some (([(⟨x182000,x182001,x182002,x182003⟩:S26)]:List (S26)):List (S26))).bind fun y204=>((spec_l01Node.f (⟨#[110]⟩:ByteArray) y204).bind fun _=>(spec_l01DrawAny.l0 k (wrap64 (x4 + 1)) x1000 bt201.2.1 bt201.2.2 (⟨#[110]⟩:ByteArray) (⟨#[]⟩:ByteArray) false y204))) else (some (x182000,x182001,x182002,x182003,bt201.2.1,bt201.2.2)))
def spec_l01DrawAny.l1:Nat→List (S26)→Int→List Int→Int→Int→Option (ByteArray × ByteArray × Bool × (List (S26)) × Int × Int)
 |0,_,_,_,_,_=>none
 |k + 1,x5,x6,x1000,x1001,x1002=>(spec_l01Cur_pick.f x1000 x1001 x1002 2).bind fun bt210=>(if x6 < (wrap64 (1000 + bt210.1)) then ((spec_l01Leaf.f (⟨#[107]⟩:ByteArray) (⟨#[]⟩:ByteArray)).bind fun bt213=>(if x5.length < 2199023255552 then (spec_l01DrawAny.l1 k (x5 ++ [(⟨bt213.1,bt213.2.1,bt213.2.2.1,bt213.2.2.2⟩:S26)]) (wrap64 (x6 + 1)) x1000 bt210.2.1 bt210.2.2) else (none))) else ((spec_l01Node.f (⟨#[110]⟩:ByteArray) x5).bind fun _=>(some ((⟨#[110]⟩:ByteArray),(⟨#[]⟩:ByteArray),false,x5,bt210.2.1,bt210.2.2))))
def spec_l01DrawAny.l2:Nat→List (S26)→Int→List Int→Int→Int→Option (ByteArray × ByteArray × Bool × (List (S26)) × Int × Int)
 |0,_,_,_,_,_=>none
 |k + 1,x7,x8,x1000,x1001,x1002=>(spec_l01Cur_pick.f x1000 x1001 x1002 3).bind fun bt237=>(if x8 < (wrap64 (24 + bt237.1)) then (if 200≤281474976710656 then ((spec_l01Leaf.f (⟨#[97,98,99]⟩:ByteArray) (strOfNums (List.replicate 200 0))).bind fun bt243=>(if x7.length < 2199023255552 then (spec_l01DrawAny.l2 k (x7 ++ [(⟨bt243.1,bt243.2.1,bt243.2.2.1,bt243.2.2.2⟩:S26)]) (wrap64 (x8 + 1)) x1000 bt237.2.1 bt237.2.2) else (none))) else (none)) else ((spec_l01Node.f (⟨#[110]⟩:ByteArray) x7).bind fun _=>(some ((⟨#[110]⟩:ByteArray),(⟨#[]⟩:ByteArray),false,x7,bt237.2.1,bt237.2.2))))
end
def spec_l01DrawAny.f (k:Nat) (s0_0:List Int) (s0_1:Int) (s0_2:Int):Option (ByteArray × ByteArray × Bool × (List (S26)) × Int × Int):=(spec_l01Cur_size.f s0_0 s0_1 s0_2 5).bind fun bt170=>((spec_l01DrawTree.f k s0_0 bt170.2.1 bt170.2.2 (wrap64 (1 + bt170.1))).bind fun bt173=>((spec_l01Cur_pick.f s0_0 bt173.2.2.2.2.1 bt173.2.2.2.2.2 24).bind fun bt182=>(if bt182.1=0 then ((some (([(⟨#[]⟩:ByteArray),(⟨#[49,97]⟩:ByteArray),(⟨#[97,32,98]⟩:ByteArray),(⟨#[97,98,99,100,101,102,103,104,105,106,107,108,109,110,111,112,113,114,115,116,117,118,119,120,121]⟩:ByteArray)]:List ByteArray):List ByteArray)).bind fun y185=>((spec_l01Cur_pick.f s0_0 bt182.2.1 bt182.2.2 4).bind fun bt188=>(if 0≤bt188.1 then (if bt188.1 < (y185.length:Int) then (some (rdOf ByteArray.empty y185 bt188.1,bt173.2.1,bt173.2.2.1,bt173.2.2.2.1,bt188.2.1,bt188.2.2)) else (none)) else (none)))) else (if bt182.1=1 then (some (bt173.1,bt173.2.1, !bt173.2.2.1,bt173.2.2.2.1,bt182.2.1,bt182.2.2)) else (if bt182.1=2 then (if bt173.2.1.size + 1≤9223372036854775807 then (some (bt173.1,bt173.2.1 ++ (⟨#[113]⟩:ByteArray),bt173.2.2.1,bt173.2.2.2.1,bt182.2.1,bt182.2.2)) else (none)) else (if bt182.1=3 then (if bt173.2.2.2.1.length < 2199023255552 then (some (bt173.1,bt173.2.1,bt173.2.2.1,(bt173.2.2.2.1 ++ [(⟨(⟨#[45]⟩:ByteArray),(⟨#[]⟩:ByteArray),false,([]:List (S26))⟩:S26)]),bt182.2.1,bt182.2.2)) else (none)) else (if bt182.1=4 then ((spec_l01Leaf.f (⟨#[97]⟩:ByteArray) (⟨#[]⟩:ByteArray)).bind fun bt195=>(spec_l01DrawAny.l0 k 1 s0_0 bt182.2.1 bt182.2.2 bt195.1 bt195.2.1 bt195.2.2.1 bt195.2.2.2)) else (if bt182.1=5 then (spec_l01DrawAny.l1 k (([]:List (S26))) 1 s0_0 bt182.2.1 bt182.2.2) else (if bt182.1=6 then ((spec_l01Cur_pick.f s0_0 bt182.2.1 bt182.2.2 2).bind fun bt222=>(if 0≤(wrap64 (200 + bt222.1)) then (if (wrap64 (200 + bt222.1):Int).toNat≤281474976710656 then ((spec_l01Leaf.f (⟨#[97]⟩:ByteArray) (strOfNums (List.replicate (wrap64 (200 + bt222.1):Int).toNat 0))).bind fun bt228=>(some (bt228.1,bt228.2.1,bt228.2.2.1,bt228.2.2.2,bt222.2.1,bt222.2.2))) else (none)) else (none))) else (if bt182.1=7 then (spec_l01DrawAny.l2 k (([]:List (S26))) 0 s0_0 bt182.2.1 bt182.2.2) else (some (bt173.1,bt173.2.1,bt173.2.2.1,bt173.2.2.2.1,bt182.2.1,bt182.2.2))))))))))))
theorem spec_l01DrawAny.mono_l: ∀ k,(∀ y0 y1 y2 y3 y4 y5 y6 y7,LeO (spec_l01DrawAny.l0 k y0 y1 y2 y3 y4 y5 y6 y7) (spec_l01DrawAny.l0 (k + 1) y0 y1 y2 y3 y4 y5 y6 y7))∧(∀ y0 y1 y2 y3 y4,LeO (spec_l01DrawAny.l1 k y0 y1 y2 y3 y4) (spec_l01DrawAny.l1 (k + 1) y0 y1 y2 y3 y4))∧(∀ y0 y1 y2 y3 y4,LeO (spec_l01DrawAny.l2 k y0 y1 y2 y3 y4) (spec_l01DrawAny.l2 (k + 1) y0 y1 y2 y3 y4))
 |0=>⟨fun _ _ _ _ _ _ _ _ r h=>by simp [spec_l01DrawAny.l0] at h,fun _ _ _ _ _ r h=>by simp [spec_l01DrawAny.l1] at h,fun _ _ _ _ _ r h=>by simp [spec_l01DrawAny.l2] at h⟩
 |k + 1=>by
  obtain ⟨ih0,ih1,ih2⟩:=spec_l01DrawAny.mono_l k
  refine ⟨?_, ?_, ?_⟩
  all_goals intros
  all_goals first|unfold spec_l01DrawAny.l0|unfold spec_l01DrawAny.l1|unfold spec_l01DrawAny.l2
  all_goals repeat' first
   |(with_reducible exact ih0 _ _ _ _ _ _ _ _)
   |(with_reducible exact ih1 _ _ _ _ _)
   |(with_reducible exact ih2 _ _ _ _ _)
   |(with_reducible exact spec_l01DrawTree.mono _ _ _ _ _)
   |(with_reducible exact LeO.refl _)
   |(with_reducible exact LeO.none _)
   |(with_reducible refine LeO.ite ?_ ?_)
   |(with_reducible refine LeO.bind ?_ (fun _=> ?_))
   |exact ih0 _ _ _ _ _ _ _ _
   |exact ih1 _ _ _ _ _
   |exact ih2 _ _ _ _ _
   |exact spec_l01DrawTree.mono _ _ _ _ _
   |exact LeO.none _
   |refine LeO.ite ?_ ?_
   |refine LeO.bind ?_ (fun _=> ?_)
theorem spec_l01DrawAny.mono: ∀ a0 a1 a2 k,LeO (spec_l01DrawAny.f k a0 a1 a2) (spec_l01DrawAny.f (k + 1) a0 a1 a2):=by
 intro a0 a1 a2 k
 obtain ⟨ih0,ih1,ih2⟩:=spec_l01DrawAny.mono_l k
 unfold spec_l01DrawAny.f
 repeat' first
   |(with_reducible exact ih0 _ _ _ _ _ _ _ _)
   |(with_reducible exact ih1 _ _ _ _ _)
   |(with_reducible exact ih2 _ _ _ _ _)
   |(with_reducible exact spec_l01DrawTree.mono _ _ _ _ _)
   |(with_reducible exact LeO.refl _)
   |(with_reducible exact LeO.none _)
   |(with_reducible refine LeO.ite ?_ ?_)
   |(with_reducible refine LeO.bind ?_ (fun _=> ?_))
   |exact ih0 _ _ _ _ _ _ _ _
   |exact ih1 _ _ _ _ _
   |exact ih2 _ _ _ _ _
   |exact spec_l01DrawTree.mono _ _ _ _ _
   |exact LeO.none _
   |refine LeO.ite ?_ ?_
   |refine LeO.bind ?_ (fun _=> ?_)
set_option maxHeartbeats 8000000 in
set_option maxRecDepth 100000 in
theorem spec_l01DrawAny.calls (k:Nat) (g:Nat) (s0_0:List Int) (s0_1:Int) (s0_2:Int) (r1:ByteArray) (r2:ByteArray) (r3:Bool) (r4:List (S26)) (r5:Int) (r6:Int) (w0 w:World) (hI:IsS104 w0 w g s0_0 s0_1 s0_2) (hB:Below w0.heap.size w0 w) (h:spec_l01DrawAny.f k s0_0 s0_1 s0_2=some (r1,r2,r3,r4,r5,r6)):
  Calls Try.prog 39 #[.pointer (some ⟨g,0,none⟩)] w fun e w'=> ∃ v3_:Value,e= .returned (.agg #[.string r1, .string r2, .bool r3,v3_])∧Kd.N k26 26 w' w.heap.size (fun k_=>(w.heap.size≤k_)) v3_ r4∧IsS104 w0 w' g s0_0 r5 r6∧Below w0.heap.size w0 w'∧KeepBut w w' g none:=by
 have hu26:=Try.underlying26
 have HI0:=A0_ hI
 have HK:=A0_ (KeepBut.refl w g none)
 have HL:=A0_ hB.size
 clear hI
 have HW0:=A0_ hB.size
 have HB:=A0_ hB
 clear hB
 have H:((spec_l01Cur_size.f s0_0 s0_1 s0_2 5).bind fun bt170=>((spec_l01DrawTree.f k s0_0 bt170.2.1 bt170.2.2 (wrap64 (1 + bt170.1))).bind fun bt173=>((spec_l01Cur_pick.f s0_0 bt173.2.2.2.2.1 bt173.2.2.2.2.2 24).bind fun bt182=>(if bt182.1=0 then ((some (([(⟨#[]⟩:ByteArray),(⟨#[49,97]⟩:ByteArray),(⟨#[97,32,98]⟩:ByteArray),(⟨#[97,98,99,100,101,102,103,104,105,106,107,108,109,110,111,112,113,114,115,116,117,118,119,120,121]⟩:ByteArray)]:List ByteArray):List ByteArray)).bind fun y185=>((spec_l01Cur_pick.f s0_0 bt182.2.1 bt182.2.2 4).bind fun bt188=>(if 0≤bt188.1 then (if bt188.1 < (y185.length:Int) then (some (rdOf ByteArray.empty y185 bt188.1,bt173.2.1,bt173.2.2.1,bt173.2.2.2.1,bt188.2.1,bt188.2.2)) else (none)) else (none)))) else (if bt182.1=1 then (some (bt173.1,bt173.2.1, !bt173.2.2.1,bt173.2.2.2.1,bt182.2.1,bt182.2.2)) else (if bt182.1=2 then (if bt173.2.1.size + 1≤9223372036854775807 then (some (bt173.1,bt173.2.1 ++ (⟨#[113]⟩:ByteArray),bt173.2.2.1,bt173.2.2.2.1,bt182.2.1,bt182.2.2)) else (none)) else (if bt182.1=3 then (if bt173.2.2.2.1.length < 2199023255552 then (some (bt173.1,bt173.2.1,bt173.2.2.1,(bt173.2.2.2.1 ++ [(⟨(⟨#[45]⟩:ByteArray),(⟨#[]⟩:ByteArray),false,([]:List (S26))⟩:S26)]),bt182.2.1,bt182.2.2)) else (none)) else (if bt182.1=4 then ((spec_l01Leaf.f (⟨#[97]⟩:ByteArray) (⟨#[]⟩:ByteArray)).bind fun bt195=>(spec_l01DrawAny.l0 k 1 s0_0 bt182.2.1 bt182.2.2 bt195.1 bt195.2.1 bt195.2.2.1 bt195.2.2.2)) else (if bt182.1=5 then (spec_l01DrawAny.l1 k (([]:List (S26))) 1 s0_0 bt182.2.1 bt182.2.2) else (if bt182.1=6 then ((spec_l01Cur_pick.f s0_0 bt182.2.1 bt182.2.2 2).bind fun bt222=>(if 0≤(wrap64 (200 + bt222.1)) then (if (wrap64 (200 + bt222.1):Int).toNat≤281474976710656 then ((spec_l01Leaf.f (⟨#[97]⟩:ByteArray) (strOfNums (List.replicate (wrap64 (200 + bt222.1):Int).toNat 0))).bind fun bt228=>(some (bt228.1,bt228.2.1,bt228.2.2.1,bt228.2.2.2,bt222.2.1,bt222.2.2))) else (none)) else (none))) else (if bt182.1=7 then (spec_l01DrawAny.l2 k (([]:List (S26))) 0 s0_0 bt182.2.1 bt182.2.2) else (some (bt173.1,bt173.2.1,bt173.2.2.1,bt173.2.2.2.1,bt182.2.1,bt182.2.2)))))))))))))=some (r1,r2,r3,r4,r5,r6):=h
 clear h
 replace H:=Option.bind_eq_some_iff.mp H
 obtain ⟨⟨t170,t171,t172⟩,A20,H⟩:=H
 replace H:((spec_l01DrawTree.f k s0_0 t171 t172 (wrap64 (1 + t170))).bind fun bt173=>((spec_l01Cur_pick.f s0_0 bt173.2.2.2.2.1 bt173.2.2.2.2.2 24).bind fun bt182=>(if bt182.1=0 then ((some (([(⟨#[]⟩:ByteArray),(⟨#[49,97]⟩:ByteArray),(⟨#[97,32,98]⟩:ByteArray),(⟨#[97,98,99,100,101,102,103,104,105,106,107,108,109,110,111,112,113,114,115,116,117,118,119,120,121]⟩:ByteArray)]:List ByteArray):List ByteArray)).bind fun y185=>((spec_l01Cur_pick.f s0_0 bt182.2.1 bt182.2.2 4).bind fun bt188=>(if 0≤bt188.1 then (if bt188.1 < (y185.length:Int) then (some (rdOf ByteArray.empty y185 bt188.1,bt173.2.1,bt173.2.2.1,bt173.2.2.2.1,bt188.2.1,bt188.2.2)) else (none)) else (none)))) else (if bt182.1=1 then (some (bt173.1,bt173.2.1, !bt173.2.2.1,bt173.2.2.2.1,bt182.2.1,bt182.2.2)) else (if bt182.1=2 then (if bt173.2.1.size + 1≤9223372036854775807 then (some (bt173.1,bt173.2.1 ++ (⟨#[113]⟩:ByteArray),bt173.2.2.1,bt173.2.2.2.1,bt182.2.1,bt182.2.2)) else (none)) else (if bt182.1=3 then (if bt173.2.2.2.1.length < 2199023255552 then (some (bt173.1,bt173.2.1,bt173.2.2.1,(bt173.2.2.2.1 ++ [(⟨(⟨#[45]⟩:ByteArray),(⟨#[]⟩:ByteArray),false,([]:List (S26))⟩:S26)]),bt182.2.1,bt182.2.2)) else (none)) else (if bt182.1=4 then ((spec_l01Leaf.f (⟨#[97]⟩:ByteArray) (⟨#[]⟩:ByteArray)).bind fun bt195=>(spec_l01DrawAny.l0 k 1 s0_0 bt182.2.1 bt182.2.2 bt195.1 bt195.2.1 bt195.2.2.1 bt195.2.2.2)) else (if bt182.1=5 then (spec_l01DrawAny.l1 k (([]:List (S26))) 1 s0_0 bt182.2.1 bt182.2.2) else (if bt182.1=6 then ((spec_l01Cur_pick.f s0_0 bt182.2.1 bt182.2.2 2).bind fun bt222=>(if 0≤(wrap64 (200 + bt222.1)) then (if (wrap64 (200 + bt222.1):Int).toNat≤281474976710656 then ((spec_l01Leaf.f (⟨#[97]⟩:ByteArray) (strOfNums (List.replicate (wrap64 (200 + bt222.1):Int).toNat 0))).bind fun bt228=>(some (bt228.1,bt228.2.1,bt228.2.2.1,bt228.2.2.2,bt222.2.1,bt222.2.2))) else (none)) else (none))) else (if bt182.1=7 then (spec_l01DrawAny.l2 k (([]:List (S26))) 0 s0_0 bt182.2.1 bt182.2.2) else (some (bt173.1,bt173.2.1,bt173.2.2.1,bt173.2.2.2.1,bt182.2.1,bt182.2.2))))))))))))=some (r1,r2,r3,r4,r5,r6):=H
 have A2:=A0_ A20
 clear A20
 replace H:=Option.bind_eq_some_iff.mp H
 obtain ⟨⟨t173,t174,t175,t176,t179,t180⟩,A30,H⟩:=H
 replace H:((spec_l01Cur_pick.f s0_0 t179 t180 24).bind fun bt182=>(if bt182.1=0 then ((some (([(⟨#[]⟩:ByteArray),(⟨#[49,97]⟩:ByteArray),(⟨#[97,32,98]⟩:ByteArray),(⟨#[97,98,99,100,101,102,103,104,105,106,107,108,109,110,111,112,113,114,115,116,117,118,119,120,121]⟩:ByteArray)]:List ByteArray):List ByteArray)).bind fun y185=>((spec_l01Cur_pick.f s0_0 bt182.2.1 bt182.2.2 4).bind fun bt188=>(if 0≤bt188.1 then (if bt188.1 < (y185.length:Int) then (some (rdOf ByteArray.empty y185 bt188.1,t174,t175,t176,bt188.2.1,bt188.2.2)) else (none)) else (none)))) else (if bt182.1=1 then (some (t173,t174, !t175,t176,bt182.2.1,bt182.2.2)) else (if bt182.1=2 then (if t174.size + 1≤9223372036854775807 then (some (t173,t174 ++ (⟨#[113]⟩:ByteArray),t175,t176,bt182.2.1,bt182.2.2)) else (none)) else (if bt182.1=3 then (if t176.length < 2199023255552 then (some (t173,t174,t175,(t176 ++ [(⟨(⟨#[45]⟩:ByteArray),(⟨#[]⟩:ByteArray),false,([]:List (S26))⟩:S26)]),bt182.2.1,bt182.2.2)) else (none)) else (if bt182.1=4 then ((spec_l01Leaf.f (⟨#[97]⟩:ByteArray) (⟨#[]⟩:ByteArray)).bind fun bt195=>(spec_l01DrawAny.l0 k 1 s0_0 bt182.2.1 bt182.2.2 bt195.1 bt195.2.1 bt195.2.2.1 bt195.2.2.2)) else (if bt182.1=5 then (spec_l01DrawAny.l1 k (([]:List (S26))) 1 s0_0 bt182.2.1 bt182.2.2) else (if bt182.1=6 then ((spec_l01Cur_pick.f s0_0 bt182.2.1 bt182.2.2 2).bind fun bt222=>(if 0≤(wrap64 (200 + bt222.1)) then (if (wrap64 (200 + bt222.1):Int).toNat≤281474976710656 then ((spec_l01Leaf.f (⟨#[97]⟩:ByteArray) (strOfNums (List.replicate (wrap64 (200 + bt222.1):Int).toNat 0))).bind fun bt228=>(some (bt228.1,bt228.2.1,bt228.2.2.1,bt228.2.2.2,bt222.2.1,bt222.2.2))) else (none)) else (none))) else (if bt182.1=7 then (spec_l01DrawAny.l2 k (([]:List (S26))) 0 s0_0 bt182.2.1 bt182.2.2) else (some (t173,t174,t175,t176,bt182.2.1,bt182.2.2)))))))))))=some (r1,r2,r3,r4,r5,r6):=H
 have A3:=A0_ A30
 clear A30
 replace H:=Option.bind_eq_some_iff.mp H
 obtain ⟨⟨t182,t183,t184⟩,A40,H⟩:=H
 replace H:(if t182=0 then ((some (([(⟨#[]⟩:ByteArray),(⟨#[49,97]⟩:ByteArray),(⟨#[97,32,98]⟩:ByteArray),(⟨#[97,98,99,100,101,102,103,104,105,106,107,108,109,110,111,112,113,114,115,116,117,118,119,120,121]⟩:ByteArray)]:List ByteArray):List ByteArray)).bind fun y185=>((spec_l01Cur_pick.f s0_0 t183 t184 4).bind fun bt188=>(if 0≤bt188.1 then (if bt188.1 < (y185.length:Int) then (some (rdOf ByteArray.empty y185 bt188.1,t174,t175,t176,bt188.2.1,bt188.2.2)) else (none)) else (none)))) else (if t182=1 then (some (t173,t174, !t175,t176,t183,t184)) else (if t182=2 then (if t174.size + 1≤9223372036854775807 then (some (t173,t174 ++ (⟨#[113]⟩:ByteArray),t175,t176,t183,t184)) else (none)) else (if t182=3 then (if t176.length < 2199023255552 then (some (t173,t174,t175,(t176 ++ [(⟨(⟨#[45]⟩:ByteArray),(⟨#[]⟩:ByteArray),false,([]:List (S26))⟩:S26)]),t183,t184)) else (none)) else (if t182=4 then ((spec_l01Leaf.f (⟨#[97]⟩:ByteArray) (⟨#[]⟩:ByteArray)).bind fun bt195=>(spec_l01DrawAny.l0 k 1 s0_0 t183 t184 bt195.1 bt195.2.1 bt195.2.2.1 bt195.2.2.2)) else (if t182=5 then (spec_l01DrawAny.l1 k (([]:List (S26))) 1 s0_0 t183 t184) else (if t182=6 then ((spec_l01Cur_pick.f s0_0 t183 t184 2).bind fun bt222=>(if 0≤(wrap64 (200 + bt222.1)) then (if (wrap64 (200 + bt222.1):Int).toNat≤281474976710656 then ((spec_l01Leaf.f (⟨#[97]⟩:ByteArray) (strOfNums (List.replicate (wrap64 (200 + bt222.1):Int).toNat 0))).bind fun bt228=>(some (bt228.1,bt228.2.1,bt228.2.2.1,bt228.2.2.2,bt222.2.1,bt222.2.2))) else (none)) else (none))) else (if t182=7 then (spec_l01DrawAny.l2 k (([]:List (S26))) 0 s0_0 t183 t184) else (some (t173,t174,t175,t176,t183,t184))))))))))=some (r1,r2,r3,r4,r5,r6):=H
 have A4:=A0_ A40
 clear A40
 by_cases c5:t182=0
 ·rw [if_pos c5] at H
  have c5b0:(t182 == 0)=true:=beq_iff_eq.mpr c5
  have c5b1:(t182 != 0)=false:=bne_eq_false_iff_eq.mpr c5
  clear c5
  obtain ⟨y185,hy185⟩: ∃ y_:List ByteArray,y_=(([(⟨#[]⟩:ByteArray),(⟨#[49,97]⟩:ByteArray),(⟨#[97,32,98]⟩:ByteArray),(⟨#[97,98,99,100,101,102,103,104,105,106,107,108,109,110,111,112,113,114,115,116,117,118,119,120,121]⟩:ByteArray)]:List ByteArray)):=⟨_,rfl⟩
  replace H:((spec_l01Cur_pick.f s0_0 t183 t184 4).bind fun bt188=>(if 0≤bt188.1 then (if bt188.1 < (y185.length:Int) then (some (rdOf ByteArray.empty y185 bt188.1,t174,t175,t176,bt188.2.1,bt188.2.2)) else (none)) else (none)))=some (r1,r2,r3,r4,r5,r6):=by first|(rw [hy185];with_reducible exact H)|(have H2_:=(Option.bind_some _ _).symm.trans H;rw [hy185];with_reducible exact H2_)|(have H2_:=(Option.bind_some _ _).symm.trans H;with_reducible exact H2_)|with_reducible exact H|(rw [hy185];exact H)|exact H
  have Ny185:=A0_ hy185
  clear hy185
  replace H:=Option.bind_eq_some_iff.mp H
  obtain ⟨⟨t188,t189,t190⟩,A60,H⟩:=H
  replace H:(if 0≤t188 then (if t188 < (y185.length:Int) then (some (rdOf ByteArray.empty y185 t188,t174,t175,t176,t189,t190)) else (none)) else (none))=some (r1,r2,r3,r4,r5,r6):=H
  have A6:=A0_ A60
  clear A60
  by_cases c7:0≤t188
  ·rw [if_pos c7] at H
   have c7b0:decide (0≤t188)=true:=decide_eq_true c7
   clear c7
   by_cases c8:t188 < (y185.length:Int)
   ·rw [if_pos c8] at H
    have c8b0:decide (t188 < (y185.length:Int))=true:=decide_eq_true c8
    clear c8
    simp only [Option.some.injEq,Prod.mk.injEq] at H
    obtain ⟨rfl,rfl,rfl,rfl,rfl,rfl⟩:=H
    go_enter Try.func39,Try.ntmps39
    go_wp2_with (first|((with_reducible refine gate_dst (N:=2) rfl ?_);refine box_event ?hg (N:=2) ?hd (cs:= #[.string (⟨#[]⟩:ByteArray), .string (⟨#[]⟩:ByteArray), .bool false, .slice none 0 0]) (t:=26) ?hr ?_;(case hd=>rfl);(case hg=>rfl);(case hr=>first|(go_simp;done)|(go_simp;rfl));intro gb169 hg w9 hbox hb;replace HB:=A0_ (below_step HB.out hb);have BK169:=A0_ (hbox);have GW169:=A0_ ((by rw [hg];exact (keep_size (w:=w) (row:=none) HK.out):w.heap.size≤gb169));have GE169:=A0_ ((Nat.le_trans HW0.out (by rw [hg];exact (keep_size (w:=w) (row:=none) HK.out):w.heap.size≤gb169):w0.heap.size≤gb169));replace HK:=A0_ (KeepBut.trans HK.out (KeepBut.of_below hb g none) (.inl rfl));have NB0_169:=A0_ ((by rw [hg];exact Nat.ne_of_lt (IsS104.lt (show IsS104 w0 _ g s0_0 s0_1 s0_2 from by repeat (first|(with_reducible first|exact HI0.out|apply IsS104.alloc|apply IsS104.drewN|apply IsS104.drew|apply IsS104.set_1|apply IsS104.set_2)|exact HI0.out))):g≠gb169));have NB169_0:=A0_ ((by rw [hg];exact Nat.ne_of_gt (IsS104.lt (show IsS104 w0 _ g s0_0 s0_1 s0_2 from by repeat (first|(with_reducible first|exact HI0.out|apply IsS104.alloc|apply IsS104.drewN|apply IsS104.drew|apply IsS104.set_1|apply IsS104.set_2)|exact HI0.out))):gb169≠g));replace HI0:=A0_ (IsS104.below HI0.out hb);clear hb hbox hg)|((with_reducible refine gate_callee (f:=84) rfl ?_);refine goesL_ (some 11) rfl rfl Try.func84 (by kernel_rfl) rfl #[.pointer (some ⟨g,0,none⟩), .int .i64 5] rfl (by (try simp only [List.map_toArray,List.map_cons,List.map_nil]);first|done|rfl|(simp only [List.length_drop,List.length_take];rfl)) ?_;(with_reducible refine (spec_l01Cur_size.calls g s0_0 s0_1 s0_2 5 t170 t171 t172 w0 _ ?side1 ?side2 A2.out).mono ?_);(case side1=>repeat (first|(with_reducible first|exact HI0.out|apply IsS104.alloc|apply IsS104.drewN|apply IsS104.drew|apply IsS104.set_1|apply IsS104.set_2|refine IsS104.far ?_ NB0_169.out _)|exact HI0.out));(case side2=>repeat (first|(with_reducible first|exact HB.out|apply below_alloc|apply pw_below_drewN|apply below_drew1|refine below_set ?_ (IsS104.ge HI0.out)|refine below_set ?_ GE169.out)|exact HB.out));rintro e w10 ⟨rfl,hi,hb,hk⟩;refine ⟨_,rfl, ?_⟩;replace BK169:=A0_ (KeepBut.blk hk BK169.out NB169_0.out (by simp));replace HK:=A0_ (KeepBut.trans HK.out hk (.inl rfl));replace HB:=A0_ (hb);replace HI0:=A0_ (hi);(try clear hb);(try clear hb2);(try clear hk);(try clear hi))|((with_reducible refine gate_callee (f:=37) rfl ?_);refine goesL_ (some 13) rfl rfl Try.func37 (by kernel_rfl) rfl #[.pointer (some ⟨g,0,none⟩), .int .i64 (wrap64 (1 + t170))] rfl (by (try simp only [List.map_toArray,List.map_cons,List.map_nil]);first|done|rfl|(simp only [List.length_drop,List.length_take];rfl)) ?_;(with_reducible refine (spec_l01DrawTree.calls k g s0_0 t171 t172 (wrap64 (1 + t170)) t173 t174 t175 t176 t179 t180 w0 _ ?side1 ?side2 A3.out).mono ?_);(case side1=>repeat (first|(with_reducible first|exact HI0.out|apply IsS104.alloc|apply IsS104.drewN|apply IsS104.drew|apply IsS104.set_1|apply IsS104.set_2|refine IsS104.far ?_ NB0_169.out _)|exact HI0.out));(case side2=>repeat (first|(with_reducible first|exact HB.out|apply below_alloc|apply pw_below_drewN|apply below_drew1|refine below_set ?_ (IsS104.ge HI0.out)|refine below_set ?_ GE169.out)|exact HB.out));rintro e w11 ⟨v177,rfl,ho0,hi,hb,hk⟩;refine ⟨_,rfl, ?_⟩;have HO178:=A0_ (Kd.N_lower (Kd.N_mono (ok':=fun k_=>(w.heap.size≤k_)∧k_≠gb169∧k_≠g) (Kd.R_N (Kd.R_bound ho0)) (fun k_ hk_=>⟨(Nat.le_trans (keep_size (w:=w) (row:=none) HK.out) hk_.2.1),(Kd.freshB BK169.out k_ hk_.2.1),(IsS104.fresh HI0.out k_ hk_.2.1)⟩)) (keep_size (w:=w) (row:=none) HK.out));replace BK169:=A0_ (KeepBut.blk hk BK169.out NB169_0.out (by simp));replace HK:=A0_ (KeepBut.trans HK.out hk (.inl rfl));replace HB:=A0_ (hb);replace HI0:=A0_ (hi);(try clear hb);(try clear hb2);(try clear hk);(try clear hi);(try clear ho0))|((with_reducible refine gate_dst (N:=3) rfl ?_);refine box_event ?hg (N:=3) ?hd (cs:= #[.string (⟨#[]⟩:ByteArray), .string (⟨#[]⟩:ByteArray), .bool false, .slice none 0 0]) (t:=26) ?hr ?_;(case hd=>rfl);(case hg=>rfl);(case hr=>first|(go_simp;done)|(go_simp;rfl));intro gb181 hg w12 hbox hb;replace HO178:=A0_ (Kd.N_below (Kd.N_elderB HO178.out gb181 (Nat.le_of_eq hg.symm)) hb);replace HB:=A0_ (below_step HB.out hb);have BK181:=A0_ (hbox);have GW181:=A0_ ((by rw [hg];exact (keep_size (w:=w) (row:=none) HK.out):w.heap.size≤gb181));have GE181:=A0_ ((Nat.le_trans HW0.out (by rw [hg];exact (keep_size (w:=w) (row:=none) HK.out):w.heap.size≤gb181):w0.heap.size≤gb181));replace HK:=A0_ (KeepBut.trans HK.out (KeepBut.of_below hb g none) (.inl rfl));have NB169_181:=A0_ ((by rw [hg];exact Nat.ne_of_lt (blk_lt BK169.out):gb169≠gb181));have NB181_169:=A0_ ((by rw [hg];exact Nat.ne_of_gt (blk_lt BK169.out):gb181≠gb169));replace BK169:=A0_ (blk_below BK169.out hb);have NB0_181:=A0_ ((by rw [hg];exact Nat.ne_of_lt (IsS104.lt (show IsS104 w0 _ g s0_0 t179 t180 from by repeat (first|(with_reducible first|exact HI0.out|apply IsS104.alloc|apply IsS104.drewN|apply IsS104.drew|apply IsS104.set_1|apply IsS104.set_2|refine IsS104.far ?_ NB0_169.out _)|exact HI0.out))):g≠gb181));have NB181_0:=A0_ ((by rw [hg];exact Nat.ne_of_gt (IsS104.lt (show IsS104 w0 _ g s0_0 t179 t180 from by repeat (first|(with_reducible first|exact HI0.out|apply IsS104.alloc|apply IsS104.drewN|apply IsS104.drew|apply IsS104.set_1|apply IsS104.set_2|refine IsS104.far ?_ NB0_169.out _)|exact HI0.out))):gb181≠g));replace HI0:=A0_ (IsS104.below HI0.out hb);clear hb hbox hg;have hnb13:=NB181_169.out;have hnc13:=NB169_181.out;have hnb14:=NB181_0.out;have hnc14:=NB0_181.out;obtain ⟨hcz15_0,hcz15_1,hcz15_2,hcz15_3⟩:=bc4_ BK181.out;obtain ⟨hfz15_0,hfz15_1,hfz15_2,hfz15_3⟩:=bf4_ BK181.out;obtain ⟨Ao16,co16,eo16⟩:=Kd.N_slice HO178.out;subst eo16)|((with_reducible refine gate_callee (f:=38) rfl ?_);refine goesL_ (some 15) rfl rfl Try.func38 (by kernel_rfl) rfl #[.pointer (some ⟨g,0,none⟩), .int .i64 24] rfl (by (try simp only [List.map_toArray,List.map_cons,List.map_nil]);first|done|rfl|(simp only [List.length_drop,List.length_take];rfl)) ?_;(with_reducible refine (spec_l01Cur_pick.calls g s0_0 t179 t180 24 t182 t183 t184 w0 _ ?side1 ?side2 A4.out).mono ?_);(case side1=>repeat (first|(with_reducible first|exact HI0.out|apply IsS104.alloc|apply IsS104.drewN|apply IsS104.drew|apply IsS104.set_1|apply IsS104.set_2|refine IsS104.far ?_ NB0_169.out _|refine IsS104.far ?_ NB0_181.out _)|exact HI0.out));(case side2=>repeat (first|(with_reducible first|exact HB.out|apply below_alloc|apply pw_below_drewN|apply below_drew1|refine below_set ?_ (IsS104.ge HI0.out)|refine below_set ?_ GE169.out|refine below_set ?_ GE181.out)|exact HB.out));rintro e w17 ⟨rfl,hi,hb,hk⟩;refine ⟨_,rfl, ?_⟩;replace BK169:=A0_ (KeepBut.blk hk (g':=gb169) (o:= .cells #[.string (⟨#[]⟩:ByteArray), .string (⟨#[]⟩:ByteArray), .bool false, .slice none 0 0] 26 (0,0)) (by (with_reducible repeat (first|refine blk_drewN ?_ _|refine blk_drew ?_|refine blk_alloc ?_ _));refine blk_far ?_ NB169_181.out _;(with_reducible repeat (first|refine blk_drewN ?_ _|refine blk_drew ?_|refine blk_alloc ?_ _));refine blk_far ?_ NB169_181.out _;(with_reducible repeat (first|refine blk_drewN ?_ _|refine blk_drew ?_|refine blk_alloc ?_ _));refine blk_far ?_ NB169_181.out _;(with_reducible repeat (first|refine blk_drewN ?_ _|refine blk_drew ?_|refine blk_alloc ?_ _));refine blk_far ?_ NB169_181.out _;(with_reducible repeat (first|refine blk_drewN ?_ _|refine blk_drew ?_|refine blk_alloc ?_ _));exact BK169.out) NB169_0.out (by simp));replace HO178:=A0_ (Kd.N_mono (Kd.N_keep (Kd.N_mono (ok:=fun k_=>((((w.heap.size≤k_))∧(k_≠gb169∧k_≠g))∧k_≠gb181)) (Kd.N_mono (Kd.N_far (p:=⟨gb181,3,none⟩) (Kd.N_far (p:=⟨gb181,2,none⟩) (Kd.N_far (p:=⟨gb181,1,none⟩) (Kd.N_far (p:=⟨gb181,0,none⟩) (Kd.N_mono HO178.out (fun k_ hk=>(⟨hk,hk.2⟩:_∧k_≠gb181))) (fun _ hk=>hk.2) (.string t173)) (fun _ hk=>hk.2) (.string t174)) (fun _ hk=>hk.2) (.bool t175)) (fun _ hk=>hk.2) (.slice Ao16 t176.length co16)) (fun _ h_=>h_.1)) (fun k_ hk_=>(⟨hk_,(by first|exact hk_.1.2.2|(have hk0_:=hk_;revert hk0_;(try simp only [and_imp]);intros;(repeat' apply And.intro) <;> assumption))⟩:_∧k_≠g))) hk (fun _ h=>h.2)) (fun _ h=>h.1));replace BK181:=A0_ (KeepBut.blk hk (g':=gb181) (o:= .cells #[.string t173, .string t174, .bool t175, .slice Ao16 t176.length co16] 26 (0,0)) (by (with_reducible repeat (first|refine blk_drewN ?_ _|refine blk_drew ?_|refine blk_alloc ?_ _));refine blk_put (cs:= #[.string t173, .string t174, .bool t175, .slice none 0 0]) ?_ 3 _ rfl;(with_reducible repeat (first|refine blk_drewN ?_ _|refine blk_drew ?_|refine blk_alloc ?_ _));refine blk_put (cs:= #[.string t173, .string t174, .bool false, .slice none 0 0]) ?_ 2 _ rfl;(with_reducible repeat (first|refine blk_drewN ?_ _|refine blk_drew ?_|refine blk_alloc ?_ _));refine blk_put (cs:= #[.string t173, .string (⟨#[]⟩:ByteArray), .bool false, .slice none 0 0]) ?_ 1 _ rfl;(with_reducible repeat (first|refine blk_drewN ?_ _|refine blk_drew ?_|refine blk_alloc ?_ _));refine blk_put (cs:= #[.string (⟨#[]⟩:ByteArray), .string (⟨#[]⟩:ByteArray), .bool false, .slice none 0 0]) ?_ 0 _ rfl;(with_reducible repeat (first|refine blk_drewN ?_ _|refine blk_drew ?_|refine blk_alloc ?_ _));exact BK181.out) NB181_0.out (by simp));replace HK:=A0_ (KeepBut.trans (by repeat (first|(with_reducible first|exact HK.out|apply KeepBut.set_|apply keep_drewN|apply keep_drew|apply keep_alloc|refine keep_far ?_ GW169.out _|refine keep_far ?_ GW181.out _)|exact HK.out)) hk (.inl rfl));replace HB:=A0_ (hb);replace HI0:=A0_ (hi);(try clear hb);(try clear hb2);(try clear hk);(try clear hi))|((with_reducible refine gate_dst (N:=18) rfl ?_);refine Kd.R_lit Kd.string _ 9 ?hg (N:=18) ?hd (xs:=([(⟨#[]⟩:ByteArray),(⟨#[49,97]⟩:ByteArray),(⟨#[97,32,98]⟩:ByteArray),(⟨#[97,98,99,100,101,102,103,104,105,106,107,108,109,110,111,112,113,114,115,116,117,118,119,120,121]⟩:ByteArray)]:List ByteArray)) (inner:= [.string (⟨#[]⟩:ByteArray), .string (⟨#[49,97]⟩:ByteArray), .string (⟨#[97,32,98]⟩:ByteArray), .string (⟨#[97,98,99,100,101,102,103,104,105,106,107,108,109,110,111,112,113,114,115,116,117,118,119,120,121]⟩:ByteArray)]) (ok:=fun _=>True) (okp:=fun _=>True) ?hr ?hp (fun _ hk=>hk) trivial (Below.refl _ _) (Nat.le_refl _) (by simp) ?_;(case hd=>rfl);(case hg=>rfl);(case hr=>first|(go_simp;done)|(go_simp;rfl));(case hp=>exact (Reps.one (show Kd.M Kd.string _ _ _ (⟨#[]⟩:ByteArray) [.string (⟨#[]⟩:ByteArray)] from rfl) (Reps.one (show Kd.M Kd.string _ _ _ (⟨#[49,97]⟩:ByteArray) [.string (⟨#[49,97]⟩:ByteArray)] from rfl) (Reps.one (show Kd.M Kd.string _ _ _ (⟨#[97,32,98]⟩:ByteArray) [.string (⟨#[97,32,98]⟩:ByteArray)] from rfl) (Reps.one (show Kd.M Kd.string _ _ _ (⟨#[97,98,99,100,101,102,103,104,105,106,107,108,109,110,111,112,113,114,115,116,117,118,119,120,121]⟩:ByteArray) [.string (⟨#[97,98,99,100,101,102,103,104,105,106,107,108,109,110,111,112,113,114,115,116,117,118,119,120,121]⟩:ByteArray)] from rfl) (Reps.none _ _))))));intro v186 w18 ho19 hb hg_ hnew_;clear hg_ hnew_;(first|rw [← Ny185.out] at ho19|(simp only [Int.reduceToNat] at ho19;rw [← Ny185.out] at ho19));replace HO178:=A0_ (Kd.N_elder' HO178.out (Kd.R_base ho19) hb);have HO187:=A0_ (Kd.R_lower (Kd.R_newM (M:=fun k_=>(w.heap.size≤k_)) ho19 (keep_size (w:=w) (row:=none) HK.out) (fun k_ h_=>h_)) (keep_size (w:=w) (row:=none) HK.out));replace HI0:=A0_ (IsS104.below HI0.out hb);replace BK169:=A0_ (blk_below BK169.out hb);replace BK181:=A0_ (blk_below BK181.out hb);replace HK:=A0_ (KeepBut.trans HK.out (KeepBut.of_below hb g none) (.inl rfl));replace HB:=A0_ (below_step HB.out hb);clear hb ho19)|((with_reducible refine gate_callee (f:=38) rfl ?_);refine goesL_ (some 20) rfl rfl Try.func38 (by kernel_rfl) rfl #[.pointer (some ⟨g,0,none⟩), .int .i64 4] rfl (by (try simp only [List.map_toArray,List.map_cons,List.map_nil]);first|done|rfl|(simp only [List.length_drop,List.length_take];rfl)) ?_;(with_reducible refine (spec_l01Cur_pick.calls g s0_0 t183 t184 4 t188 t189 t190 w0 _ ?side1 ?side2 A6.out).mono ?_);(case side1=>repeat (first|(with_reducible first|exact HI0.out|apply IsS104.alloc|apply IsS104.drewN|apply IsS104.drew|apply IsS104.set_1|apply IsS104.set_2|refine IsS104.far ?_ NB0_169.out _|refine IsS104.far ?_ NB0_181.out _)|exact HI0.out));(case side2=>repeat (first|(with_reducible first|exact HB.out|apply below_alloc|apply pw_below_drewN|apply below_drew1|refine below_set ?_ (IsS104.ge HI0.out)|refine below_set ?_ GE169.out|refine below_set ?_ GE181.out)|exact HB.out));rintro e w20 ⟨rfl,hi,hb,hk⟩;refine ⟨_,rfl, ?_⟩;replace BK169:=A0_ (KeepBut.blk hk BK169.out NB169_0.out (by simp));replace HO178:=A0_ (Kd.N_mono (Kd.N_keep (Kd.N_mono (ok:=fun k_=>(((((w.heap.size≤k_))∧(k_≠gb169∧k_≠g))∧k_≠gb181)∧some k_≠(v186:Value).ownBlock)) HO178.out (fun k_ hk_=>(⟨hk_,(by first|exact hk_.1.1.2.2|(have hk0_:=hk_;revert hk0_;(try simp only [and_imp]);intros;(repeat' apply And.intro) <;> assumption))⟩:_∧k_≠g))) hk (fun _ h=>h.2)) (fun _ h=>h.1));replace BK181:=A0_ (KeepBut.blk hk BK181.out NB181_0.out (by simp));replace HO187:=A0_ (Kd.R_mono (Kd.R_keep (IsS104.apart (show IsS104 w0 _ g s0_0 t183 t184 from by repeat (first|(with_reducible first|exact HI0.out|apply IsS104.alloc|apply IsS104.drewN|apply IsS104.drew|apply IsS104.set_1|apply IsS104.set_2|refine IsS104.far ?_ NB0_169.out _|refine IsS104.far ?_ NB0_181.out _)|exact HI0.out)) HO187.out (by decide)) hk (fun _ h=>h.2)) (fun _ h=>h.1));replace HK:=A0_ (KeepBut.trans HK.out hk (.inl rfl));replace HB:=A0_ (hb);replace HI0:=A0_ (hi);(try clear hb);(try clear hb2);(try clear hk);(try clear hi);obtain ⟨Ao21,co21,eo21⟩:=Kd.R_slice HO187.out;subst eo21;have p191:0≤(t188:Int):=of_decide_eq_true (by first|(with_reducible assumption)|assumption);have q191:t188 < (y185.length:Int):=of_decide_eq_true (by first|(with_reducible assumption)|assumption);obtain ⟨ad191,e191,hx191_0⟩:=Kd.at_string (Kd.R_reads' HO187.out).2.2 t188 p191 q191;cases e191;replace p191:=eq_true p191;replace q191:=eq_true q191;obtain ⟨hcz22_0,hcz22_1,hcz22_2,hcz22_3⟩:=bc4_ BK181.out;obtain ⟨hfz22_0,hfz22_1,hfz22_2,hfz22_3⟩:=bf4_ BK181.out;have hnb23:=NB169_0.out;have hnc23:=NB0_169.out;obtain ⟨hcz24_0,hcz24_1,hcz24_2,hcz24_3⟩:=bc4_ BK169.out;obtain ⟨hfz24_0,hfz24_1,hfz24_2,hfz24_3⟩:=bf4_ BK169.out))
    refine bodyPost_ret (results_cell_row rfl _ _ gb169 26 #[.string (rdOf ByteArray.empty y185 t188), .string t174, .bool t175, .slice Ao16 t176.length co16] (0,0) _ rfl (by (with_reducible repeat (first|refine blk_drewN ?_ _|refine blk_drew ?_|refine blk_alloc ?_ _));refine blk_put (cs:= #[.string (rdOf ByteArray.empty y185 t188), .string t174, .bool t175, .slice none 0 0]) ?_ 3 _ rfl;(with_reducible repeat (first|refine blk_drewN ?_ _|refine blk_drew ?_|refine blk_alloc ?_ _));refine blk_put (cs:= #[.string (rdOf ByteArray.empty y185 t188), .string t174, .bool false, .slice none 0 0]) ?_ 2 _ rfl;(with_reducible repeat (first|refine blk_drewN ?_ _|refine blk_drew ?_|refine blk_alloc ?_ _));refine blk_put (cs:= #[.string (rdOf ByteArray.empty y185 t188), .string (⟨#[]⟩:ByteArray), .bool false, .slice none 0 0]) ?_ 1 _ rfl;(with_reducible repeat (first|refine blk_drewN ?_ _|refine blk_drew ?_|refine blk_alloc ?_ _));refine blk_put (cs:= #[.string (⟨#[]⟩:ByteArray), .string (⟨#[]⟩:ByteArray), .bool false, .slice none 0 0]) ?_ 0 _ rfl;(with_reducible repeat (first|refine blk_drewN ?_ _|refine blk_drew ?_|refine blk_alloc ?_ _));refine blk_far ?_ NB169_181.out _;(with_reducible repeat (first|refine blk_drewN ?_ _|refine blk_drew ?_|refine blk_alloc ?_ _));exact BK169.out) Try.underlying26 rfl (by kernel_rfl)) rfl ?_
    exact ⟨_,by first|rfl|(simp [errW_none,errW_some] <;> rfl)|(simp [*,errW_none,errW_some] <;> rfl),by (with_reducible repeat (first|apply Kd.N_alloc|apply Kd.N_drewN|apply Kd.N_drew));exact Kd.N_mono (Kd.N_far (p:=⟨gb169,3,none⟩) (Kd.N_far (p:=⟨gb169,2,none⟩) (Kd.N_far (p:=⟨gb169,1,none⟩) (Kd.N_far (p:=⟨gb169,0,none⟩) (Kd.N_far (p:=⟨gb181,0,none⟩) (Kd.N_mono (Kd.N_mono HO178.out (fun k_ hk=>(⟨hk,hk.1.2⟩:_∧k_≠gb181))) (fun k_ hk=>(⟨hk,hk.1.1.1.2.1⟩:_∧k_≠gb169))) (fun _ hk=>hk.1.2) (.string (rdOf ByteArray.empty y185 t188))) (fun _ hk=>hk.2) (.string (rdOf ByteArray.empty y185 t188))) (fun _ hk=>hk.2) (.string t174)) (fun _ hk=>hk.2) (.bool t175)) (fun _ hk=>hk.2) (.slice Ao16 t176.length co16)) (fun _ hk=>hk.1.1.1.1.1),by repeat (first|(with_reducible first|exact HI0.out|apply IsS104.alloc|apply IsS104.drewN|apply IsS104.drew|apply IsS104.set_1|apply IsS104.set_2|refine IsS104.far ?_ NB0_169.out _|refine IsS104.far ?_ NB0_181.out _)|exact HI0.out),by repeat (first|(with_reducible first|exact HB.out|apply below_alloc|apply pw_below_drewN|apply below_drew1|refine below_set ?_ (IsS104.ge HI0.out)|refine below_set ?_ GE169.out|refine below_set ?_ GE181.out)|exact HB.out),by repeat (first|(with_reducible first|exact HK.out|apply KeepBut.set_|apply keep_drewN|apply keep_drew|apply keep_alloc|refine keep_far ?_ GW169.out _|refine keep_far ?_ GW181.out _)|exact HK.out)⟩
   ·rw [if_neg c8] at H
    exact absurd H (by simp)
  ·rw [if_neg c7] at H
   exact absurd H (by simp)
 ·rw [if_neg c5] at H
  have c5b0:(t182 == 0)=false:=beq_eq_false_iff_ne.mpr c5
  have c5b1:(t182 != 0)=true:=bne_iff_ne.mpr c5
  by_cases c25:t182=1
  ·rw [if_pos c25] at H
   have c25b0:(t182 == 1)=true:=beq_iff_eq.mpr c25
   have c25b1:(t182 != 1)=false:=bne_eq_false_iff_eq.mpr c25
   clear c25
   simp only [Option.some.injEq,Prod.mk.injEq] at H
   obtain ⟨rfl,rfl,rfl,rfl,rfl,rfl⟩:=H
   go_enter Try.func39,Try.ntmps39
   go_wp2_with (first|((with_reducible refine gate_dst (N:=2) rfl ?_);refine box_event ?hg (N:=2) ?hd (cs:= #[.string (⟨#[]⟩:ByteArray), .string (⟨#[]⟩:ByteArray), .bool false, .slice none 0 0]) (t:=26) ?hr ?_;(case hd=>rfl);(case hg=>rfl);(case hr=>first|(go_simp;done)|(go_simp;rfl));intro gb169 hg w26 hbox hb;replace HB:=A0_ (below_step HB.out hb);have BK169:=A0_ (hbox);have GW169:=A0_ ((by rw [hg];exact (keep_size (w:=w) (row:=none) HK.out):w.heap.size≤gb169));have GE169:=A0_ ((Nat.le_trans HW0.out (by rw [hg];exact (keep_size (w:=w) (row:=none) HK.out):w.heap.size≤gb169):w0.heap.size≤gb169));replace HK:=A0_ (KeepBut.trans HK.out (KeepBut.of_below hb g none) (.inl rfl));have NB0_169:=A0_ ((by rw [hg];exact Nat.ne_of_lt (IsS104.lt (show IsS104 w0 _ g s0_0 s0_1 s0_2 from by repeat (first|(with_reducible first|exact HI0.out|apply IsS104.alloc|apply IsS104.drewN|apply IsS104.drew|apply IsS104.set_1|apply IsS104.set_2)|exact HI0.out))):g≠gb169));have NB169_0:=A0_ ((by rw [hg];exact Nat.ne_of_gt (IsS104.lt (show IsS104 w0 _ g s0_0 s0_1 s0_2 from by repeat (first|(with_reducible first|exact HI0.out|apply IsS104.alloc|apply IsS104.drewN|apply IsS104.drew|apply IsS104.set_1|apply IsS104.set_2)|exact HI0.out))):gb169≠g));replace HI0:=A0_ (IsS104.below HI0.out hb);clear hb hbox hg)|((with_reducible refine gate_callee (f:=84) rfl ?_);refine goesL_ (some 11) rfl rfl Try.func84 (by kernel_rfl) rfl #[.pointer (some ⟨g,0,none⟩), .int .i64 5] rfl (by (try simp only [List.map_toArray,List.map_cons,List.map_nil]);first|done|rfl|(simp only [List.length_drop,List.length_take];rfl)) ?_;(with_reducible refine (spec_l01Cur_size.calls g s0_0 s0_1 s0_2 5 t170 t171 t172 w0 _ ?side1 ?side2 A2.out).mono ?_);(case side1=>repeat (first|(with_reducible first|exact HI0.out|apply IsS104.alloc|apply IsS104.drewN|apply IsS104.drew|apply IsS104.set_1|apply IsS104.set_2|refine IsS104.far ?_ NB0_169.out _)|exact HI0.out));(case side2=>repeat (first|(with_reducible first|exact HB.out|apply below_alloc|apply pw_below_drewN|apply below_drew1|refine below_set ?_ (IsS104.ge HI0.out)|refine below_set ?_ GE169.out)|exact HB.out));rintro e w27 ⟨rfl,hi,hb,hk⟩;refine ⟨_,rfl, ?_⟩;replace BK169:=A0_ (KeepBut.blk hk BK169.out NB169_0.out (by simp));replace HK:=A0_ (KeepBut.trans HK.out hk (.inl rfl));replace HB:=A0_ (hb);replace HI0:=A0_ (hi);(try clear hb);(try clear hb2);(try clear hk);(try clear hi))|((with_reducible refine gate_callee (f:=37) rfl ?_);refine goesL_ (some 13) rfl rfl Try.func37 (by kernel_rfl) rfl #[.pointer (some ⟨g,0,none⟩), .int .i64 (wrap64 (1 + t170))] rfl (by (try simp only [List.map_toArray,List.map_cons,List.map_nil]);first|done|rfl|(simp only [List.length_drop,List.length_take];rfl)) ?_;(with_reducible refine (spec_l01DrawTree.calls k g s0_0 t171 t172 (wrap64 (1 + t170)) t173 t174 t175 t176 t179 t180 w0 _ ?side1 ?side2 A3.out).mono ?_);(case side1=>repeat (first|(with_reducible first|exact HI0.out|apply IsS104.alloc|apply IsS104.drewN|apply IsS104.drew|apply IsS104.set_1|apply IsS104.set_2|refine IsS104.far ?_ NB0_169.out _)|exact HI0.out));(case side2=>repeat (first|(with_reducible first|exact HB.out|apply below_alloc|apply pw_below_drewN|apply below_drew1|refine below_set ?_ (IsS104.ge HI0.out)|refine below_set ?_ GE169.out)|exact HB.out));rintro e w28 ⟨v177,rfl,ho0,hi,hb,hk⟩;refine ⟨_,rfl, ?_⟩;have HO178:=A0_ (Kd.N_lower (Kd.N_mono (ok':=fun k_=>(w.heap.size≤k_)∧k_≠gb169∧k_≠g) (Kd.R_N (Kd.R_bound ho0)) (fun k_ hk_=>⟨(Nat.le_trans (keep_size (w:=w) (row:=none) HK.out) hk_.2.1),(Kd.freshB BK169.out k_ hk_.2.1),(IsS104.fresh HI0.out k_ hk_.2.1)⟩)) (keep_size (w:=w) (row:=none) HK.out));replace BK169:=A0_ (KeepBut.blk hk BK169.out NB169_0.out (by simp));replace HK:=A0_ (KeepBut.trans HK.out hk (.inl rfl));replace HB:=A0_ (hb);replace HI0:=A0_ (hi);(try clear hb);(try clear hb2);(try clear hk);(try clear hi);(try clear ho0))|((with_reducible refine gate_dst (N:=3) rfl ?_);refine box_event ?hg (N:=3) ?hd (cs:= #[.string (⟨#[]⟩:ByteArray), .string (⟨#[]⟩:ByteArray), .bool false, .slice none 0 0]) (t:=26) ?hr ?_;(case hd=>rfl);(case hg=>rfl);(case hr=>first|(go_simp;done)|(go_simp;rfl));intro gb181 hg w29 hbox hb;replace HO178:=A0_ (Kd.N_below (Kd.N_elderB HO178.out gb181 (Nat.le_of_eq hg.symm)) hb);replace HB:=A0_ (below_step HB.out hb);have BK181:=A0_ (hbox);have GW181:=A0_ ((by rw [hg];exact (keep_size (w:=w) (row:=none) HK.out):w.heap.size≤gb181));have GE181:=A0_ ((Nat.le_trans HW0.out (by rw [hg];exact (keep_size (w:=w) (row:=none) HK.out):w.heap.size≤gb181):w0.heap.size≤gb181));replace HK:=A0_ (KeepBut.trans HK.out (KeepBut.of_below hb g none) (.inl rfl));have NB169_181:=A0_ ((by rw [hg];exact Nat.ne_of_lt (blk_lt BK169.out):gb169≠gb181));have NB181_169:=A0_ ((by rw [hg];exact Nat.ne_of_gt (blk_lt BK169.out):gb181≠gb169));replace BK169:=A0_ (blk_below BK169.out hb);have NB0_181:=A0_ ((by rw [hg];exact Nat.ne_of_lt (IsS104.lt (show IsS104 w0 _ g s0_0 t179 t180 from by repeat (first|(with_reducible first|exact HI0.out|apply IsS104.alloc|apply IsS104.drewN|apply IsS104.drew|apply IsS104.set_1|apply IsS104.set_2|refine IsS104.far ?_ NB0_169.out _)|exact HI0.out))):g≠gb181));have NB181_0:=A0_ ((by rw [hg];exact Nat.ne_of_gt (IsS104.lt (show IsS104 w0 _ g s0_0 t179 t180 from by repeat (first|(with_reducible first|exact HI0.out|apply IsS104.alloc|apply IsS104.drewN|apply IsS104.drew|apply IsS104.set_1|apply IsS104.set_2|refine IsS104.far ?_ NB0_169.out _)|exact HI0.out))):gb181≠g));replace HI0:=A0_ (IsS104.below HI0.out hb);clear hb hbox hg;have hnb30:=NB181_169.out;have hnc30:=NB169_181.out;have hnb31:=NB181_0.out;have hnc31:=NB0_181.out;obtain ⟨hcz32_0,hcz32_1,hcz32_2,hcz32_3⟩:=bc4_ BK181.out;obtain ⟨hfz32_0,hfz32_1,hfz32_2,hfz32_3⟩:=bf4_ BK181.out;obtain ⟨Ao33,co33,eo33⟩:=Kd.N_slice HO178.out;subst eo33)|((with_reducible refine gate_callee (f:=38) rfl ?_);refine goesL_ (some 15) rfl rfl Try.func38 (by kernel_rfl) rfl #[.pointer (some ⟨g,0,none⟩), .int .i64 24] rfl (by (try simp only [List.map_toArray,List.map_cons,List.map_nil]);first|done|rfl|(simp only [List.length_drop,List.length_take];rfl)) ?_;(with_reducible refine (spec_l01Cur_pick.calls g s0_0 t179 t180 24 t182 t183 t184 w0 _ ?side1 ?side2 A4.out).mono ?_);(case side1=>repeat (first|(with_reducible first|exact HI0.out|apply IsS104.alloc|apply IsS104.drewN|apply IsS104.drew|apply IsS104.set_1|apply IsS104.set_2|refine IsS104.far ?_ NB0_169.out _|refine IsS104.far ?_ NB0_181.out _)|exact HI0.out));(case side2=>repeat (first|(with_reducible first|exact HB.out|apply below_alloc|apply pw_below_drewN|apply below_drew1|refine below_set ?_ (IsS104.ge HI0.out)|refine below_set ?_ GE169.out|refine below_set ?_ GE181.out)|exact HB.out));rintro e w34 ⟨rfl,hi,hb,hk⟩;refine ⟨_,rfl, ?_⟩;replace BK169:=A0_ (KeepBut.blk hk (g':=gb169) (o:= .cells #[.string (⟨#[]⟩:ByteArray), .string (⟨#[]⟩:ByteArray), .bool false, .slice none 0 0] 26 (0,0)) (by (with_reducible repeat (first|refine blk_drewN ?_ _|refine blk_drew ?_|refine blk_alloc ?_ _));refine blk_far ?_ NB169_181.out _;(with_reducible repeat (first|refine blk_drewN ?_ _|refine blk_drew ?_|refine blk_alloc ?_ _));refine blk_far ?_ NB169_181.out _;(with_reducible repeat (first|refine blk_drewN ?_ _|refine blk_drew ?_|refine blk_alloc ?_ _));refine blk_far ?_ NB169_181.out _;(with_reducible repeat (first|refine blk_drewN ?_ _|refine blk_drew ?_|refine blk_alloc ?_ _));refine blk_far ?_ NB169_181.out _;(with_reducible repeat (first|refine blk_drewN ?_ _|refine blk_drew ?_|refine blk_alloc ?_ _));exact BK169.out) NB169_0.out (by simp));replace HO178:=A0_ (Kd.N_mono (Kd.N_keep (Kd.N_mono (ok:=fun k_=>((((w.heap.size≤k_))∧(k_≠gb169∧k_≠g))∧k_≠gb181)) (Kd.N_mono (Kd.N_far (p:=⟨gb181,3,none⟩) (Kd.N_far (p:=⟨gb181,2,none⟩) (Kd.N_far (p:=⟨gb181,1,none⟩) (Kd.N_far (p:=⟨gb181,0,none⟩) (Kd.N_mono HO178.out (fun k_ hk=>(⟨hk,hk.2⟩:_∧k_≠gb181))) (fun _ hk=>hk.2) (.string t173)) (fun _ hk=>hk.2) (.string t174)) (fun _ hk=>hk.2) (.bool t175)) (fun _ hk=>hk.2) (.slice Ao33 t176.length co33)) (fun _ h_=>h_.1)) (fun k_ hk_=>(⟨hk_,(by first|exact hk_.1.2.2|(have hk0_:=hk_;revert hk0_;(try simp only [and_imp]);intros;(repeat' apply And.intro) <;> assumption))⟩:_∧k_≠g))) hk (fun _ h=>h.2)) (fun _ h=>h.1));replace BK181:=A0_ (KeepBut.blk hk (g':=gb181) (o:= .cells #[.string t173, .string t174, .bool t175, .slice Ao33 t176.length co33] 26 (0,0)) (by (with_reducible repeat (first|refine blk_drewN ?_ _|refine blk_drew ?_|refine blk_alloc ?_ _));refine blk_put (cs:= #[.string t173, .string t174, .bool t175, .slice none 0 0]) ?_ 3 _ rfl;(with_reducible repeat (first|refine blk_drewN ?_ _|refine blk_drew ?_|refine blk_alloc ?_ _));refine blk_put (cs:= #[.string t173, .string t174, .bool false, .slice none 0 0]) ?_ 2 _ rfl;(with_reducible repeat (first|refine blk_drewN ?_ _|refine blk_drew ?_|refine blk_alloc ?_ _));refine blk_put (cs:= #[.string t173, .string (⟨#[]⟩:ByteArray), .bool false, .slice none 0 0]) ?_ 1 _ rfl;(with_reducible repeat (first|refine blk_drewN ?_ _|refine blk_drew ?_|refine blk_alloc ?_ _));refine blk_put (cs:= #[.string (⟨#[]⟩:ByteArray), .string (⟨#[]⟩:ByteArray), .bool false, .slice none 0 0]) ?_ 0 _ rfl;(with_reducible repeat (first|refine blk_drewN ?_ _|refine blk_drew ?_|refine blk_alloc ?_ _));exact BK181.out) NB181_0.out (by simp));replace HK:=A0_ (KeepBut.trans (by repeat (first|(with_reducible first|exact HK.out|apply KeepBut.set_|apply keep_drewN|apply keep_drew|apply keep_alloc|refine keep_far ?_ GW169.out _|refine keep_far ?_ GW181.out _)|exact HK.out)) hk (.inl rfl));replace HB:=A0_ (hb);replace HI0:=A0_ (hi);(try clear hb);(try clear hb2);(try clear hk);(try clear hi);obtain ⟨hcz35_0,hcz35_1,hcz35_2,hcz35_3⟩:=bc4_ BK181.out;obtain ⟨hfz35_0,hfz35_1,hfz35_2,hfz35_3⟩:=bf4_ BK181.out;have hnb36:=NB169_0.out;have hnc36:=NB0_169.out;obtain ⟨hcz37_0,hcz37_1,hcz37_2,hcz37_3⟩:=bc4_ BK169.out;obtain ⟨hfz37_0,hfz37_1,hfz37_2,hfz37_3⟩:=bf4_ BK169.out))
   refine bodyPost_ret (results_cell_row rfl _ _ gb169 26 #[.string t173, .string t174, .bool (!t175), .slice Ao33 t176.length co33] (0,0) _ rfl (by (with_reducible repeat (first|refine blk_drewN ?_ _|refine blk_drew ?_|refine blk_alloc ?_ _));refine blk_put (cs:= #[.string t173, .string t174, .bool (!t175), .slice none 0 0]) ?_ 3 _ rfl;(with_reducible repeat (first|refine blk_drewN ?_ _|refine blk_drew ?_|refine blk_alloc ?_ _));refine blk_put (cs:= #[.string t173, .string t174, .bool false, .slice none 0 0]) ?_ 2 _ rfl;(with_reducible repeat (first|refine blk_drewN ?_ _|refine blk_drew ?_|refine blk_alloc ?_ _));refine blk_put (cs:= #[.string t173, .string (⟨#[]⟩:ByteArray), .bool false, .slice none 0 0]) ?_ 1 _ rfl;(with_reducible repeat (first|refine blk_drewN ?_ _|refine blk_drew ?_|refine blk_alloc ?_ _));refine blk_put (cs:= #[.string (⟨#[]⟩:ByteArray), .string (⟨#[]⟩:ByteArray), .bool false, .slice none 0 0]) ?_ 0 _ rfl;(with_reducible repeat (first|refine blk_drewN ?_ _|refine blk_drew ?_|refine blk_alloc ?_ _));refine blk_far ?_ NB169_181.out _;(with_reducible repeat (first|refine blk_drewN ?_ _|refine blk_drew ?_|refine blk_alloc ?_ _));exact BK169.out) Try.underlying26 rfl (by kernel_rfl)) rfl ?_
   exact ⟨_,by first|rfl|(simp [errW_none,errW_some] <;> rfl)|(simp [*,errW_none,errW_some] <;> rfl),by (with_reducible repeat (first|apply Kd.N_alloc|apply Kd.N_drewN|apply Kd.N_drew));exact Kd.N_mono (Kd.N_far (p:=⟨gb169,3,none⟩) (Kd.N_far (p:=⟨gb169,2,none⟩) (Kd.N_far (p:=⟨gb169,1,none⟩) (Kd.N_far (p:=⟨gb169,0,none⟩) (Kd.N_far (p:=⟨gb181,2,none⟩) (Kd.N_mono (Kd.N_mono HO178.out (fun k_ hk=>(⟨hk,hk.2⟩:_∧k_≠gb181))) (fun k_ hk=>(⟨hk,hk.1.1.2.1⟩:_∧k_≠gb169))) (fun _ hk=>hk.1.2) (.bool (!t175))) (fun _ hk=>hk.2) (.string t173)) (fun _ hk=>hk.2) (.string t174)) (fun _ hk=>hk.2) (.bool (!t175))) (fun _ hk=>hk.2) (.slice Ao33 t176.length co33)) (fun _ hk=>hk.1.1.1.1),by repeat (first|(with_reducible first|exact HI0.out|apply IsS104.alloc|apply IsS104.drewN|apply IsS104.drew|apply IsS104.set_1|apply IsS104.set_2|refine IsS104.far ?_ NB0_169.out _|refine IsS104.far ?_ NB0_181.out _)|exact HI0.out),by repeat (first|(with_reducible first|exact HB.out|apply below_alloc|apply pw_below_drewN|apply below_drew1|refine below_set ?_ (IsS104.ge HI0.out)|refine below_set ?_ GE169.out|refine below_set ?_ GE181.out)|exact HB.out),by repeat (first|(with_reducible first|exact HK.out|apply KeepBut.set_|apply keep_drewN|apply keep_drew|apply keep_alloc|refine keep_far ?_ GW169.out _|refine keep_far ?_ GW181.out _)|exact HK.out)⟩
  ·rw [if_neg c25] at H
   have c25b0:(t182 == 1)=false:=beq_eq_false_iff_ne.mpr c25
   have c25b1:(t182 != 1)=true:=bne_iff_ne.mpr c25
   by_cases c38:t182=2
   ·rw [if_pos c38] at H
    have c38b0:(t182 == 2)=true:=beq_iff_eq.mpr c38
    have c38b1:(t182 != 2)=false:=bne_eq_false_iff_eq.mpr c38
    clear c38
    by_cases c39:t174.size + 1≤9223372036854775807
    ·rw [if_pos c39] at H
     have c39b0:=eq_true c39
     have c39b1:decide (t174.size + 1≤9223372036854775807)=true:=decide_eq_true c39
     try have c39b2:(9223372036854775807 < t174.size + 1)=False:=eq_false (Nat.not_lt.2 c39)
     simp only [Option.some.injEq,Prod.mk.injEq] at H
     obtain ⟨rfl,rfl,rfl,rfl,rfl,rfl⟩:=H
     go_enter Try.func39,Try.ntmps39
     go_wp2_with (first|((with_reducible refine gate_dst (N:=2) rfl ?_);refine box_event ?hg (N:=2) ?hd (cs:= #[.string (⟨#[]⟩:ByteArray), .string (⟨#[]⟩:ByteArray), .bool false, .slice none 0 0]) (t:=26) ?hr ?_;(case hd=>rfl);(case hg=>rfl);(case hr=>first|(go_simp;done)|(go_simp;rfl));intro gb169 hg w40 hbox hb;replace HB:=A0_ (below_step HB.out hb);have BK169:=A0_ (hbox);have GW169:=A0_ ((by rw [hg];exact (keep_size (w:=w) (row:=none) HK.out):w.heap.size≤gb169));have GE169:=A0_ ((Nat.le_trans HW0.out (by rw [hg];exact (keep_size (w:=w) (row:=none) HK.out):w.heap.size≤gb169):w0.heap.size≤gb169));replace HK:=A0_ (KeepBut.trans HK.out (KeepBut.of_below hb g none) (.inl rfl));have NB0_169:=A0_ ((by rw [hg];exact Nat.ne_of_lt (IsS104.lt (show IsS104 w0 _ g s0_0 s0_1 s0_2 from by repeat (first|(with_reducible first|exact HI0.out|apply IsS104.alloc|apply IsS104.drewN|apply IsS104.drew|apply IsS104.set_1|apply IsS104.set_2)|exact HI0.out))):g≠gb169));have NB169_0:=A0_ ((by rw [hg];exact Nat.ne_of_gt (IsS104.lt (show IsS104 w0 _ g s0_0 s0_1 s0_2 from by repeat (first|(with_reducible first|exact HI0.out|apply IsS104.alloc|apply IsS104.drewN|apply IsS104.drew|apply IsS104.set_1|apply IsS104.set_2)|exact HI0.out))):gb169≠g));replace HI0:=A0_ (IsS104.below HI0.out hb);clear hb hbox hg)|((with_reducible refine gate_callee (f:=84) rfl ?_);refine goesL_ (some 11) rfl rfl Try.func84 (by kernel_rfl) rfl #[.pointer (some ⟨g,0,none⟩), .int .i64 5] rfl (by (try simp only [List.map_toArray,List.map_cons,List.map_nil]);first|done|rfl|(simp only [List.length_drop,List.length_take];rfl)) ?_;(with_reducible refine (spec_l01Cur_size.calls g s0_0 s0_1 s0_2 5 t170 t171 t172 w0 _ ?side1 ?side2 A2.out).mono ?_);(case side1=>repeat (first|(with_reducible first|exact HI0.out|apply IsS104.alloc|apply IsS104.drewN|apply IsS104.drew|apply IsS104.set_1|apply IsS104.set_2|refine IsS104.far ?_ NB0_169.out _)|exact HI0.out));(case side2=>repeat (first|(with_reducible first|exact HB.out|apply below_alloc|apply pw_below_drewN|apply below_drew1|refine below_set ?_ (IsS104.ge HI0.out)|refine below_set ?_ GE169.out)|exact HB.out));rintro e w41 ⟨rfl,hi,hb,hk⟩;refine ⟨_,rfl, ?_⟩;replace BK169:=A0_ (KeepBut.blk hk BK169.out NB169_0.out (by simp));replace HK:=A0_ (KeepBut.trans HK.out hk (.inl rfl));replace HB:=A0_ (hb);replace HI0:=A0_ (hi);(try clear hb);(try clear hb2);(try clear hk);(try clear hi))|((with_reducible refine gate_callee (f:=37) rfl ?_);refine goesL_ (some 13) rfl rfl Try.func37 (by kernel_rfl) rfl #[.pointer (some ⟨g,0,none⟩), .int .i64 (wrap64 (1 + t170))] rfl (by (try simp only [List.map_toArray,List.map_cons,List.map_nil]);first|done|rfl|(simp only [List.length_drop,List.length_take];rfl)) ?_;(with_reducible refine (spec_l01DrawTree.calls k g s0_0 t171 t172 (wrap64 (1 + t170)) t173 t174 t175 t176 t179 t180 w0 _ ?side1 ?side2 A3.out).mono ?_);(case side1=>repeat (first|(with_reducible first|exact HI0.out|apply IsS104.alloc|apply IsS104.drewN|apply IsS104.drew|apply IsS104.set_1|apply IsS104.set_2|refine IsS104.far ?_ NB0_169.out _)|exact HI0.out));(case side2=>repeat (first|(with_reducible first|exact HB.out|apply below_alloc|apply pw_below_drewN|apply below_drew1|refine below_set ?_ (IsS104.ge HI0.out)|refine below_set ?_ GE169.out)|exact HB.out));rintro e w42 ⟨v177,rfl,ho0,hi,hb,hk⟩;refine ⟨_,rfl, ?_⟩;have HO178:=A0_ (Kd.N_lower (Kd.N_mono (ok':=fun k_=>(w.heap.size≤k_)∧k_≠gb169∧k_≠g) (Kd.R_N (Kd.R_bound ho0)) (fun k_ hk_=>⟨(Nat.le_trans (keep_size (w:=w) (row:=none) HK.out) hk_.2.1),(Kd.freshB BK169.out k_ hk_.2.1),(IsS104.fresh HI0.out k_ hk_.2.1)⟩)) (keep_size (w:=w) (row:=none) HK.out));replace BK169:=A0_ (KeepBut.blk hk BK169.out NB169_0.out (by simp));replace HK:=A0_ (KeepBut.trans HK.out hk (.inl rfl));replace HB:=A0_ (hb);replace HI0:=A0_ (hi);(try clear hb);(try clear hb2);(try clear hk);(try clear hi);(try clear ho0))|((with_reducible refine gate_dst (N:=3) rfl ?_);refine box_event ?hg (N:=3) ?hd (cs:= #[.string (⟨#[]⟩:ByteArray), .string (⟨#[]⟩:ByteArray), .bool false, .slice none 0 0]) (t:=26) ?hr ?_;(case hd=>rfl);(case hg=>rfl);(case hr=>first|(go_simp;done)|(go_simp;rfl));intro gb181 hg w43 hbox hb;replace HO178:=A0_ (Kd.N_below (Kd.N_elderB HO178.out gb181 (Nat.le_of_eq hg.symm)) hb);replace HB:=A0_ (below_step HB.out hb);have BK181:=A0_ (hbox);have GW181:=A0_ ((by rw [hg];exact (keep_size (w:=w) (row:=none) HK.out):w.heap.size≤gb181));have GE181:=A0_ ((Nat.le_trans HW0.out (by rw [hg];exact (keep_size (w:=w) (row:=none) HK.out):w.heap.size≤gb181):w0.heap.size≤gb181));replace HK:=A0_ (KeepBut.trans HK.out (KeepBut.of_below hb g none) (.inl rfl));have NB169_181:=A0_ ((by rw [hg];exact Nat.ne_of_lt (blk_lt BK169.out):gb169≠gb181));have NB181_169:=A0_ ((by rw [hg];exact Nat.ne_of_gt (blk_lt BK169.out):gb181≠gb169));replace BK169:=A0_ (blk_below BK169.out hb);have NB0_181:=A0_ ((by rw [hg];exact Nat.ne_of_lt (IsS104.lt (show IsS104 w0 _ g s0_0 t179 t180 from by repeat (first|(with_reducible first|exact HI0.out|apply IsS104.alloc|apply IsS104.drewN|apply IsS104.drew|apply IsS104.set_1|apply IsS104.set_2|refine IsS104.far ?_ NB0_169.out _)|exact HI0.out))):g≠gb181));have NB181_0:=A0_ ((by rw [hg];exact Nat.ne_of_gt (IsS104.lt (show IsS104 w0 _ g s0_0 t179 t180 from by repeat (first|(with_reducible first|exact HI0.out|apply IsS104.alloc|apply IsS104.drewN|apply IsS104.drew|apply IsS104.set_1|apply IsS104.set_2|refine IsS104.far ?_ NB0_169.out _)|exact HI0.out))):gb181≠g));replace HI0:=A0_ (IsS104.below HI0.out hb);clear hb hbox hg;have hnb44:=NB181_169.out;have hnc44:=NB169_181.out;have hnb45:=NB181_0.out;have hnc45:=NB0_181.out;obtain ⟨hcz46_0,hcz46_1,hcz46_2,hcz46_3⟩:=bc4_ BK181.out;obtain ⟨hfz46_0,hfz46_1,hfz46_2,hfz46_3⟩:=bf4_ BK181.out;obtain ⟨Ao47,co47,eo47⟩:=Kd.N_slice HO178.out;subst eo47)|((with_reducible refine gate_callee (f:=38) rfl ?_);refine goesL_ (some 15) rfl rfl Try.func38 (by kernel_rfl) rfl #[.pointer (some ⟨g,0,none⟩), .int .i64 24] rfl (by (try simp only [List.map_toArray,List.map_cons,List.map_nil]);first|done|rfl|(simp only [List.length_drop,List.length_take];rfl)) ?_;(with_reducible refine (spec_l01Cur_pick.calls g s0_0 t179 t180 24 t182 t183 t184 w0 _ ?side1 ?side2 A4.out).mono ?_);(case side1=>repeat (first|(with_reducible first|exact HI0.out|apply IsS104.alloc|apply IsS104.drewN|apply IsS104.drew|apply IsS104.set_1|apply IsS104.set_2|refine IsS104.far ?_ NB0_169.out _|refine IsS104.far ?_ NB0_181.out _)|exact HI0.out));(case side2=>repeat (first|(with_reducible first|exact HB.out|apply below_alloc|apply pw_below_drewN|apply below_drew1|refine below_set ?_ (IsS104.ge HI0.out)|refine below_set ?_ GE169.out|refine below_set ?_ GE181.out)|exact HB.out));rintro e w48 ⟨rfl,hi,hb,hk⟩;refine ⟨_,rfl, ?_⟩;replace BK169:=A0_ (KeepBut.blk hk (g':=gb169) (o:= .cells #[.string (⟨#[]⟩:ByteArray), .string (⟨#[]⟩:ByteArray), .bool false, .slice none 0 0] 26 (0,0)) (by (with_reducible repeat (first|refine blk_drewN ?_ _|refine blk_drew ?_|refine blk_alloc ?_ _));refine blk_far ?_ NB169_181.out _;(with_reducible repeat (first|refine blk_drewN ?_ _|refine blk_drew ?_|refine blk_alloc ?_ _));refine blk_far ?_ NB169_181.out _;(with_reducible repeat (first|refine blk_drewN ?_ _|refine blk_drew ?_|refine blk_alloc ?_ _));refine blk_far ?_ NB169_181.out _;(with_reducible repeat (first|refine blk_drewN ?_ _|refine blk_drew ?_|refine blk_alloc ?_ _));refine blk_far ?_ NB169_181.out _;(with_reducible repeat (first|refine blk_drewN ?_ _|refine blk_drew ?_|refine blk_alloc ?_ _));exact BK169.out) NB169_0.out (by simp));replace HO178:=A0_ (Kd.N_mono (Kd.N_keep (Kd.N_mono (ok:=fun k_=>((((w.heap.size≤k_))∧(k_≠gb169∧k_≠g))∧k_≠gb181)) (Kd.N_mono (Kd.N_far (p:=⟨gb181,3,none⟩) (Kd.N_far (p:=⟨gb181,2,none⟩) (Kd.N_far (p:=⟨gb181,1,none⟩) (Kd.N_far (p:=⟨gb181,0,none⟩) (Kd.N_mono HO178.out (fun k_ hk=>(⟨hk,hk.2⟩:_∧k_≠gb181))) (fun _ hk=>hk.2) (.string t173)) (fun _ hk=>hk.2) (.string t174)) (fun _ hk=>hk.2) (.bool t175)) (fun _ hk=>hk.2) (.slice Ao47 t176.length co47)) (fun _ h_=>h_.1)) (fun k_ hk_=>(⟨hk_,(by first|exact hk_.1.2.2|(have hk0_:=hk_;revert hk0_;(try simp only [and_imp]);intros;(repeat' apply And.intro) <;> assumption))⟩:_∧k_≠g))) hk (fun _ h=>h.2)) (fun _ h=>h.1));replace BK181:=A0_ (KeepBut.blk hk (g':=gb181) (o:= .cells #[.string t173, .string t174, .bool t175, .slice Ao47 t176.length co47] 26 (0,0)) (by (with_reducible repeat (first|refine blk_drewN ?_ _|refine blk_drew ?_|refine blk_alloc ?_ _));refine blk_put (cs:= #[.string t173, .string t174, .bool t175, .slice none 0 0]) ?_ 3 _ rfl;(with_reducible repeat (first|refine blk_drewN ?_ _|refine blk_drew ?_|refine blk_alloc ?_ _));refine blk_put (cs:= #[.string t173, .string t174, .bool false, .slice none 0 0]) ?_ 2 _ rfl;(with_reducible repeat (first|refine blk_drewN ?_ _|refine blk_drew ?_|refine blk_alloc ?_ _));refine blk_put (cs:= #[.string t173, .string (⟨#[]⟩:ByteArray), .bool false, .slice none 0 0]) ?_ 1 _ rfl;(with_reducible repeat (first|refine blk_drewN ?_ _|refine blk_drew ?_|refine blk_alloc ?_ _));refine blk_put (cs:= #[.string (⟨#[]⟩:ByteArray), .string (⟨#[]⟩:ByteArray), .bool false, .slice none 0 0]) ?_ 0 _ rfl;(with_reducible repeat (first|refine blk_drewN ?_ _|refine blk_drew ?_|refine blk_alloc ?_ _));exact BK181.out) NB181_0.out (by simp));replace HK:=A0_ (KeepBut.trans (by repeat (first|(with_reducible first|exact HK.out|apply KeepBut.set_|apply keep_drewN|apply keep_drew|apply keep_alloc|refine keep_far ?_ GW169.out _|refine keep_far ?_ GW181.out _)|exact HK.out)) hk (.inl rfl));replace HB:=A0_ (hb);replace HI0:=A0_ (hi);(try clear hb);(try clear hb2);(try clear hk);(try clear hi);obtain ⟨hcz49_0,hcz49_1,hcz49_2,hcz49_3⟩:=bc4_ BK181.out;obtain ⟨hfz49_0,hfz49_1,hfz49_2,hfz49_3⟩:=bf4_ BK181.out;have hnb50:=NB169_0.out;have hnc50:=NB0_169.out;obtain ⟨hcz51_0,hcz51_1,hcz51_2,hcz51_3⟩:=bc4_ BK169.out;obtain ⟨hfz51_0,hfz51_1,hfz51_2,hfz51_3⟩:=bf4_ BK169.out))
     refine bodyPost_ret (results_cell_row rfl _ _ gb169 26 #[.string t173, .string (t174 ++ (⟨#[113]⟩:ByteArray)), .bool t175, .slice Ao47 t176.length co47] (0,0) _ rfl (by (with_reducible repeat (first|refine blk_drewN ?_ _|refine blk_drew ?_|refine blk_alloc ?_ _));refine blk_put (cs:= #[.string t173, .string (t174 ++ (⟨#[113]⟩:ByteArray)), .bool t175, .slice none 0 0]) ?_ 3 _ rfl;(with_reducible repeat (first|refine blk_drewN ?_ _|refine blk_drew ?_|refine blk_alloc ?_ _));refine blk_put (cs:= #[.string t173, .string (t174 ++ (⟨#[113]⟩:ByteArray)), .bool false, .slice none 0 0]) ?_ 2 _ rfl;(with_reducible repeat (first|refine blk_drewN ?_ _|refine blk_drew ?_|refine blk_alloc ?_ _));refine blk_put (cs:= #[.string t173, .string (⟨#[]⟩:ByteArray), .bool false, .slice none 0 0]) ?_ 1 _ rfl;(with_reducible repeat (first|refine blk_drewN ?_ _|refine blk_drew ?_|refine blk_alloc ?_ _));refine blk_put (cs:= #[.string (⟨#[]⟩:ByteArray), .string (⟨#[]⟩:ByteArray), .bool false, .slice none 0 0]) ?_ 0 _ rfl;(with_reducible repeat (first|refine blk_drewN ?_ _|refine blk_drew ?_|refine blk_alloc ?_ _));refine blk_far ?_ NB169_181.out _;(with_reducible repeat (first|refine blk_drewN ?_ _|refine blk_drew ?_|refine blk_alloc ?_ _));exact BK169.out) Try.underlying26 rfl (by kernel_rfl)) rfl ?_
     exact ⟨_,by first|rfl|(simp [errW_none,errW_some] <;> rfl)|(simp [*,errW_none,errW_some] <;> rfl),by (with_reducible repeat (first|apply Kd.N_alloc|apply Kd.N_drewN|apply Kd.N_drew));exact Kd.N_mono (Kd.N_far (p:=⟨gb169,3,none⟩) (Kd.N_far (p:=⟨gb169,2,none⟩) (Kd.N_far (p:=⟨gb169,1,none⟩) (Kd.N_far (p:=⟨gb169,0,none⟩) (Kd.N_far (p:=⟨gb181,1,none⟩) (Kd.N_mono (Kd.N_mono HO178.out (fun k_ hk=>(⟨hk,hk.2⟩:_∧k_≠gb181))) (fun k_ hk=>(⟨hk,hk.1.1.2.1⟩:_∧k_≠gb169))) (fun _ hk=>hk.1.2) (.string (t174 ++ (⟨#[113]⟩:ByteArray)))) (fun _ hk=>hk.2) (.string t173)) (fun _ hk=>hk.2) (.string (t174 ++ (⟨#[113]⟩:ByteArray)))) (fun _ hk=>hk.2) (.bool t175)) (fun _ hk=>hk.2) (.slice Ao47 t176.length co47)) (fun _ hk=>hk.1.1.1.1),by repeat (first|(with_reducible first|exact HI0.out|apply IsS104.alloc|apply IsS104.drewN|apply IsS104.drew|apply IsS104.set_1|apply IsS104.set_2|refine IsS104.far ?_ NB0_169.out _|refine IsS104.far ?_ NB0_181.out _)|exact HI0.out),by repeat (first|(with_reducible first|exact HB.out|apply below_alloc|apply pw_below_drewN|apply below_drew1|refine below_set ?_ (IsS104.ge HI0.out)|refine below_set ?_ GE169.out|refine below_set ?_ GE181.out)|exact HB.out),by repeat (first|(with_reducible first|exact HK.out|apply KeepBut.set_|apply keep_drewN|apply keep_drew|apply keep_alloc|refine keep_far ?_ GW169.out _|refine keep_far ?_ GW181.out _)|exact HK.out)⟩
    ·rw [if_neg c39] at H
     exact absurd H (by simp)
   ·rw [if_neg c38] at H
    have c38b0:(t182 == 2)=false:=beq_eq_false_iff_ne.mpr c38
    have c38b1:(t182 != 2)=true:=bne_iff_ne.mpr c38
    by_cases c52:t182=3
    ·rw [if_pos c52] at H
     have c52b0:(t182 == 3)=true:=beq_iff_eq.mpr c52
     have c52b1:(t182 != 3)=false:=bne_eq_false_iff_eq.mpr c52
     clear c52
     by_cases c53:t176.length < 2199023255552
     ·rw [if_pos c53] at H
      have LMc53:=A0_ c53
      clear c53
      obtain ⟨y192,hy192⟩: ∃ y_:List (S26),y_=(t176 ++ [(⟨(⟨#[45]⟩:ByteArray),(⟨#[]⟩:ByteArray),false,([]:List (S26))⟩:S26)]):=⟨_,rfl⟩
      replace H:(some (t173,t174,t175,y192,t183,t184))=some (r1,r2,r3,r4,r5,r6):=by first|(rw [hy192];with_reducible exact H)|(have H2_:=(Option.bind_some _ _).symm.trans H;rw [hy192];with_reducible exact H2_)|(have H2_:=(Option.bind_some _ _).symm.trans H;with_reducible exact H2_)|with_reducible exact H|(rw [hy192];exact H)|exact H
      have Ny192:=A0_ hy192
      clear hy192
      simp only [Option.some.injEq,Prod.mk.injEq] at H
      obtain ⟨rfl,rfl,rfl,rfl,rfl,rfl⟩:=H
      go_enter Try.func39,Try.ntmps39
      go_wp2_with (first|((with_reducible refine gate_dst (N:=2) rfl ?_);refine box_event ?hg (N:=2) ?hd (cs:= #[.string (⟨#[]⟩:ByteArray), .string (⟨#[]⟩:ByteArray), .bool false, .slice none 0 0]) (t:=26) ?hr ?_;(case hd=>rfl);(case hg=>rfl);(case hr=>first|(go_simp;done)|(go_simp;rfl));intro gb169 hg w54 hbox hb;replace HB:=A0_ (below_step HB.out hb);have BK169:=A0_ (hbox);have GW169:=A0_ ((by rw [hg];exact (keep_size (w:=w) (row:=none) HK.out):w.heap.size≤gb169));have GE169:=A0_ ((Nat.le_trans HW0.out (by rw [hg];exact (keep_size (w:=w) (row:=none) HK.out):w.heap.size≤gb169):w0.heap.size≤gb169));replace HK:=A0_ (KeepBut.trans HK.out (KeepBut.of_below hb g none) (.inl rfl));have NB0_169:=A0_ ((by rw [hg];exact Nat.ne_of_lt (IsS104.lt (show IsS104 w0 _ g s0_0 s0_1 s0_2 from by repeat (first|(with_reducible first|exact HI0.out|apply IsS104.alloc|apply IsS104.drewN|apply IsS104.drew|apply IsS104.set_1|apply IsS104.set_2)|exact HI0.out))):g≠gb169));have NB169_0:=A0_ ((by rw [hg];exact Nat.ne_of_gt (IsS104.lt (show IsS104 w0 _ g s0_0 s0_1 s0_2 from by repeat (first|(with_reducible first|exact HI0.out|apply IsS104.alloc|apply IsS104.drewN|apply IsS104.drew|apply IsS104.set_1|apply IsS104.set_2)|exact HI0.out))):gb169≠g));replace HI0:=A0_ (IsS104.below HI0.out hb);clear hb hbox hg)|((with_reducible refine gate_callee (f:=84) rfl ?_);refine goesL_ (some 11) rfl rfl Try.func84 (by kernel_rfl) rfl #[.pointer (some ⟨g,0,none⟩), .int .i64 5] rfl (by (try simp only [List.map_toArray,List.map_cons,List.map_nil]);first|done|rfl|(simp only [List.length_drop,List.length_take];rfl)) ?_;(with_reducible refine (spec_l01Cur_size.calls g s0_0 s0_1 s0_2 5 t170 t171 t172 w0 _ ?side1 ?side2 A2.out).mono ?_);(case side1=>repeat (first|(with_reducible first|exact HI0.out|apply IsS104.alloc|apply IsS104.drewN|apply IsS104.drew|apply IsS104.set_1|apply IsS104.set_2|refine IsS104.far ?_ NB0_169.out _)|exact HI0.out));(case side2=>repeat (first|(with_reducible first|exact HB.out|apply below_alloc|apply pw_below_drewN|apply below_drew1|refine below_set ?_ (IsS104.ge HI0.out)|refine below_set ?_ GE169.out)|exact HB.out));rintro e w55 ⟨rfl,hi,hb,hk⟩;refine ⟨_,rfl, ?_⟩;replace BK169:=A0_ (KeepBut.blk hk BK169.out NB169_0.out (by simp));replace HK:=A0_ (KeepBut.trans HK.out hk (.inl rfl));replace HB:=A0_ (hb);replace HI0:=A0_ (hi);(try clear hb);(try clear hb2);(try clear hk);(try clear hi))|((with_reducible refine gate_callee (f:=37) rfl ?_);refine goesL_ (some 13) rfl rfl Try.func37 (by kernel_rfl) rfl #[.pointer (some ⟨g,0,none⟩), .int .i64 (wrap64 (1 + t170))] rfl (by (try simp only [List.map_toArray,List.map_cons,List.map_nil]);first|done|rfl|(simp only [List.length_drop,List.length_take];rfl)) ?_;(with_reducible refine (spec_l01DrawTree.calls k g s0_0 t171 t172 (wrap64 (1 + t170)) t173 t174 t175 t176 t179 t180 w0 _ ?side1 ?side2 A3.out).mono ?_);(case side1=>repeat (first|(with_reducible first|exact HI0.out|apply IsS104.alloc|apply IsS104.drewN|apply IsS104.drew|apply IsS104.set_1|apply IsS104.set_2|refine IsS104.far ?_ NB0_169.out _)|exact HI0.out));(case side2=>repeat (first|(with_reducible first|exact HB.out|apply below_alloc|apply pw_below_drewN|apply below_drew1|refine below_set ?_ (IsS104.ge HI0.out)|refine below_set ?_ GE169.out)|exact HB.out));rintro e w56 ⟨v177,rfl,ho0,hi,hb,hk⟩;refine ⟨_,rfl, ?_⟩;have HO178:=A0_ (Kd.N_lower (Kd.N_mono (ok':=fun k_=>(w.heap.size≤k_)∧k_≠gb169∧k_≠g) (Kd.R_N (Kd.R_bound ho0)) (fun k_ hk_=>⟨(Nat.le_trans (keep_size (w:=w) (row:=none) HK.out) hk_.2.1),(Kd.freshB BK169.out k_ hk_.2.1),(IsS104.fresh HI0.out k_ hk_.2.1)⟩)) (keep_size (w:=w) (row:=none) HK.out));replace BK169:=A0_ (KeepBut.blk hk BK169.out NB169_0.out (by simp));replace HK:=A0_ (KeepBut.trans HK.out hk (.inl rfl));replace HB:=A0_ (hb);replace HI0:=A0_ (hi);(try clear hb);(try clear hb2);(try clear hk);(try clear hi);(try clear ho0))|((with_reducible refine gate_dst (N:=3) rfl ?_);refine box_event ?hg (N:=3) ?hd (cs:= #[.string (⟨#[]⟩:ByteArray), .string (⟨#[]⟩:ByteArray), .bool false, .slice none 0 0]) (t:=26) ?hr ?_;(case hd=>rfl);(case hg=>rfl);(case hr=>first|(go_simp;done)|(go_simp;rfl));intro gb181 hg w57 hbox hb;replace HO178:=A0_ (Kd.N_below (Kd.N_elderB HO178.out gb181 (Nat.le_of_eq hg.symm)) hb);replace HB:=A0_ (below_step HB.out hb);have BK181:=A0_ (hbox);have GW181:=A0_ ((by rw [hg];exact (keep_size (w:=w) (row:=none) HK.out):w.heap.size≤gb181));have GE181:=A0_ ((Nat.le_trans HW0.out (by rw [hg];exact (keep_size (w:=w) (row:=none) HK.out):w.heap.size≤gb181):w0.heap.size≤gb181));replace HK:=A0_ (KeepBut.trans HK.out (KeepBut.of_below hb g none) (.inl rfl));have NB169_181:=A0_ ((by rw [hg];exact Nat.ne_of_lt (blk_lt BK169.out):gb169≠gb181));have NB181_169:=A0_ ((by rw [hg];exact Nat.ne_of_gt (blk_lt BK169.out):gb181≠gb169));replace BK169:=A0_ (blk_below BK169.out hb);have NB0_181:=A0_ ((by rw [hg];exact Nat.ne_of_lt (IsS104.lt (show IsS104 w0 _ g s0_0 t179 t180 from by repeat (first|(with_reducible first|exact HI0.out|apply IsS104.alloc|apply IsS104.drewN|apply IsS104.drew|apply IsS104.set_1|apply IsS104.set_2|refine IsS104.far ?_ NB0_169.out _)|exact HI0.out))):g≠gb181));have NB181_0:=A0_ ((by rw [hg];exact Nat.ne_of_gt (IsS104.lt (show IsS104 w0 _ g s0_0 t179 t180 from by repeat (first|(with_reducible first|exact HI0.out|apply IsS104.alloc|apply IsS104.drewN|apply IsS104.drew|apply IsS104.set_1|apply IsS104.set_2|refine IsS104.far ?_ NB0_169.out _)|exact HI0.out))):gb181≠g));replace HI0:=A0_ (IsS104.below HI0.out hb);clear hb hbox hg;have hnb58:=NB181_169.out;have hnc58:=NB169_181.out;have hnb59:=NB181_0.out;have hnc59:=NB0_181.out;obtain ⟨hcz60_0,hcz60_1,hcz60_2,hcz60_3⟩:=bc4_ BK181.out;obtain ⟨hfz60_0,hfz60_1,hfz60_2,hfz60_3⟩:=bf4_ BK181.out;obtain ⟨Ao61,co61,eo61⟩:=Kd.N_slice HO178.out;subst eo61)|((with_reducible refine gate_callee (f:=38) rfl ?_);refine goesL_ (some 15) rfl rfl Try.func38 (by kernel_rfl) rfl #[.pointer (some ⟨g,0,none⟩), .int .i64 24] rfl (by (try simp only [List.map_toArray,List.map_cons,List.map_nil]);first|done|rfl|(simp only [List.length_drop,List.length_take];rfl)) ?_;(with_reducible refine (spec_l01Cur_pick.calls g s0_0 t179 t180 24 t182 t183 t184 w0 _ ?side1 ?side2 A4.out).mono ?_);(case side1=>repeat (first|(with_reducible first|exact HI0.out|apply IsS104.alloc|apply IsS104.drewN|apply IsS104.drew|apply IsS104.set_1|apply IsS104.set_2|refine IsS104.far ?_ NB0_169.out _|refine IsS104.far ?_ NB0_181.out _)|exact HI0.out));(case side2=>repeat (first|(with_reducible first|exact HB.out|apply below_alloc|apply pw_below_drewN|apply below_drew1|refine below_set ?_ (IsS104.ge HI0.out)|refine below_set ?_ GE169.out|refine below_set ?_ GE181.out)|exact HB.out));rintro e w62 ⟨rfl,hi,hb,hk⟩;refine ⟨_,rfl, ?_⟩;replace BK169:=A0_ (KeepBut.blk hk (g':=gb169) (o:= .cells #[.string (⟨#[]⟩:ByteArray), .string (⟨#[]⟩:ByteArray), .bool false, .slice none 0 0] 26 (0,0)) (by (with_reducible repeat (first|refine blk_drewN ?_ _|refine blk_drew ?_|refine blk_alloc ?_ _));refine blk_far ?_ NB169_181.out _;(with_reducible repeat (first|refine blk_drewN ?_ _|refine blk_drew ?_|refine blk_alloc ?_ _));refine blk_far ?_ NB169_181.out _;(with_reducible repeat (first|refine blk_drewN ?_ _|refine blk_drew ?_|refine blk_alloc ?_ _));refine blk_far ?_ NB169_181.out _;(with_reducible repeat (first|refine blk_drewN ?_ _|refine blk_drew ?_|refine blk_alloc ?_ _));refine blk_far ?_ NB169_181.out _;(with_reducible repeat (first|refine blk_drewN ?_ _|refine blk_drew ?_|refine blk_alloc ?_ _));exact BK169.out) NB169_0.out (by simp));replace HO178:=A0_ (Kd.N_mono (Kd.N_keep (Kd.N_mono (ok:=fun k_=>((((w.heap.size≤k_))∧(k_≠gb169∧k_≠g))∧k_≠gb181)) (Kd.N_mono (Kd.N_far (p:=⟨gb181,3,none⟩) (Kd.N_far (p:=⟨gb181,2,none⟩) (Kd.N_far (p:=⟨gb181,1,none⟩) (Kd.N_far (p:=⟨gb181,0,none⟩) (Kd.N_mono HO178.out (fun k_ hk=>(⟨hk,hk.2⟩:_∧k_≠gb181))) (fun _ hk=>hk.2) (.string t173)) (fun _ hk=>hk.2) (.string t174)) (fun _ hk=>hk.2) (.bool t175)) (fun _ hk=>hk.2) (.slice Ao61 t176.length co61)) (fun _ h_=>h_.1)) (fun k_ hk_=>(⟨hk_,(by first|exact hk_.1.2.2|(have hk0_:=hk_;revert hk0_;(try simp only [and_imp]);intros;(repeat' apply And.intro) <;> assumption))⟩:_∧k_≠g))) hk (fun _ h=>h.2)) (fun _ h=>h.1));replace BK181:=A0_ (KeepBut.blk hk (g':=gb181) (o:= .cells #[.string t173, .string t174, .bool t175, .slice Ao61 t176.length co61] 26 (0,0)) (by (with_reducible repeat (first|refine blk_drewN ?_ _|refine blk_drew ?_|refine blk_alloc ?_ _));refine blk_put (cs:= #[.string t173, .string t174, .bool t175, .slice none 0 0]) ?_ 3 _ rfl;(with_reducible repeat (first|refine blk_drewN ?_ _|refine blk_drew ?_|refine blk_alloc ?_ _));refine blk_put (cs:= #[.string t173, .string t174, .bool false, .slice none 0 0]) ?_ 2 _ rfl;(with_reducible repeat (first|refine blk_drewN ?_ _|refine blk_drew ?_|refine blk_alloc ?_ _));refine blk_put (cs:= #[.string t173, .string (⟨#[]⟩:ByteArray), .bool false, .slice none 0 0]) ?_ 1 _ rfl;(with_reducible repeat (first|refine blk_drewN ?_ _|refine blk_drew ?_|refine blk_alloc ?_ _));refine blk_put (cs:= #[.string (⟨#[]⟩:ByteArray), .string (⟨#[]⟩:ByteArray), .bool false, .slice none 0 0]) ?_ 0 _ rfl;(with_reducible repeat (first|refine blk_drewN ?_ _|refine blk_drew ?_|refine blk_alloc ?_ _));exact BK181.out) NB181_0.out (by simp));replace HK:=A0_ (KeepBut.trans (by repeat (first|(with_reducible first|exact HK.out|apply KeepBut.set_|apply keep_drewN|apply keep_drew|apply keep_alloc|refine keep_far ?_ GW169.out _|refine keep_far ?_ GW181.out _)|exact HK.out)) hk (.inl rfl));replace HB:=A0_ (hb);replace HI0:=A0_ (hi);(try clear hb);(try clear hb2);(try clear hk);(try clear hi);obtain ⟨hcz63_0,hcz63_1,hcz63_2,hcz63_3⟩:=bc4_ BK181.out;obtain ⟨hfz63_0,hfz63_1,hfz63_2,hfz63_3⟩:=bf4_ BK181.out)|((with_reducible refine gate_builtin (b:= .append) (xs:= #[.tmp 39, .tmp 41]) rfl ?_);at_builtin;refine Kd.N_append k26 w.heap.size rfl (.tmp 39) (.tmp 41) 24 26 (.agg #[(.string ⟨#[]⟩),(.string ⟨#[]⟩),(.bool false),(.slice none 0 0)]) 64 rfl Try.underlying24 info26 rfl (by decide) (by omega) (.slice Ao61 t176.length co61) t176 (⟨(⟨#[45]⟩:ByteArray),(⟨#[]⟩:ByteArray),false,([]:List (S26))⟩:S26) [.string (⟨#[45]⟩:ByteArray), .string (⟨#[]⟩:ByteArray), .bool false, .slice none 0 0] (fun k_=>(w.heap.size≤k_)∧k_≠gb169∧k_≠gb181∧k_≠g) (fun k_=>((fun k_=>(w.heap.size≤k_)∧k_≠gb169∧k_≠gb181∧k_≠g)) k_∧some k_≠(.slice Ao61 t176.length co61:Value).ownBlock) rfl rfl ?aP (fun _ hk=>hk) ?aF ?aO (Below.refl _ _) ?aS ?aL ?_;(case aP=>exact (k26_mkF _ _ (⟨(⟨#[45]⟩:ByteArray),(⟨#[]⟩:ByteArray),false,([]:List (S26))⟩:S26) (Nat.le_refl _) (Kd.F_nil _ _ _)));(case aF=>exact (fun k_ hk=>⟨(Nat.le_trans (keep_size (w:=w) (g:=g) (row:=none) HK.out) hk),Kd.freshB (g:=gb169) (o:= .cells #[.string (⟨#[]⟩:ByteArray), .string (⟨#[]⟩:ByteArray), .bool false, .slice none 0 0] 26 (0,0)) BK169.out k_ hk,Kd.freshB (g:=gb181) (o:= .cells #[.string t173, .string t174, .bool t175, .slice Ao61 t176.length co61] 26 (0,0)) BK181.out k_ hk,IsS104.fresh HI0.out k_ hk⟩));(case aO=>exact (Kd.N_mono HO178.out (fun _ hk=>⟨hk.1.1,⟨hk.1.2.1,⟨hk.2,hk.1.2.2⟩⟩⟩)));(case aS=>exact (keep_size (w:=w) (g:=g) (row:=none) HK.out));(case aL=>have:=LMc53.out;omega);intro v193 w64 ho hb hg hat;rw [← Ny192.out] at ho;have n0_:=A0_ (IsS104.grown HI0.out hg (IsS104.own_neN HI0.out HO178.out (by decide)));have n1_:=A0_ (blk_grown BK169.out hg (Kd.N_away HO178.out (fun _ hk=>hk.1.2.1)));have n2_:=A0_ (blk_grown BK181.out hg (Kd.N_away HO178.out (fun _ hk=>hk.2)));have n3_:=A0_ (below_weaken HB.out HL.out hb);have n4_:=A0_ (KeepBut.trans HK.out (KeepBut.of_grown hg g) (Kd.N_base2 HO178.out));have n5_:=A0_ (ho);clear HI0;clear BK169;clear BK181;clear HB;clear HK;clear HO178;have HI0:=n0_;have BK169:=n1_;have BK181:=n2_;have HB:=n3_;have HK:=n4_;have HO194:=n5_;clear n0_ n1_ n2_ n3_ n4_ n5_;clear ho hb hg hat;obtain ⟨Ao65,co65,eo65⟩:=Kd.N_slice HO194.out;subst eo65;obtain ⟨hcz66_0,hcz66_1,hcz66_2,hcz66_3⟩:=bc4_ BK181.out;obtain ⟨hfz66_0,hfz66_1,hfz66_2,hfz66_3⟩:=bf4_ BK181.out;have hnb67:=NB169_0.out;have hnc67:=NB0_169.out;obtain ⟨hcz68_0,hcz68_1,hcz68_2,hcz68_3⟩:=bc4_ BK169.out;obtain ⟨hfz68_0,hfz68_1,hfz68_2,hfz68_3⟩:=bf4_ BK169.out))
      refine bodyPost_ret (results_cell_row rfl _ _ gb169 26 #[.string t173, .string t174, .bool t175, .slice Ao65 y192.length co65] (0,0) _ rfl (by (with_reducible repeat (first|refine blk_drewN ?_ _|refine blk_drew ?_|refine blk_alloc ?_ _));refine blk_put (cs:= #[.string t173, .string t174, .bool t175, .slice none 0 0]) ?_ 3 _ rfl;(with_reducible repeat (first|refine blk_drewN ?_ _|refine blk_drew ?_|refine blk_alloc ?_ _));refine blk_put (cs:= #[.string t173, .string t174, .bool false, .slice none 0 0]) ?_ 2 _ rfl;(with_reducible repeat (first|refine blk_drewN ?_ _|refine blk_drew ?_|refine blk_alloc ?_ _));refine blk_put (cs:= #[.string t173, .string (⟨#[]⟩:ByteArray), .bool false, .slice none 0 0]) ?_ 1 _ rfl;(with_reducible repeat (first|refine blk_drewN ?_ _|refine blk_drew ?_|refine blk_alloc ?_ _));refine blk_put (cs:= #[.string (⟨#[]⟩:ByteArray), .string (⟨#[]⟩:ByteArray), .bool false, .slice none 0 0]) ?_ 0 _ rfl;(with_reducible repeat (first|refine blk_drewN ?_ _|refine blk_drew ?_|refine blk_alloc ?_ _));refine blk_far ?_ NB169_181.out _;(with_reducible repeat (first|refine blk_drewN ?_ _|refine blk_drew ?_|refine blk_alloc ?_ _));exact BK169.out) Try.underlying26 rfl (by kernel_rfl)) rfl ?_
      exact ⟨_,by first|rfl|(simp [errW_none,errW_some] <;> rfl)|(simp [*,errW_none,errW_some] <;> rfl),by (with_reducible repeat (first|apply Kd.N_alloc|apply Kd.N_drewN|apply Kd.N_drew));exact Kd.N_mono (Kd.N_far (p:=⟨gb169,3,none⟩) (Kd.N_far (p:=⟨gb169,2,none⟩) (Kd.N_far (p:=⟨gb169,1,none⟩) (Kd.N_far (p:=⟨gb169,0,none⟩) (Kd.N_far (p:=⟨gb181,3,none⟩) (Kd.N_mono (Kd.N_mono HO194.out (fun k_ hk=>(⟨hk,hk.2.2.1⟩:_∧k_≠gb181))) (fun k_ hk=>(⟨hk,hk.1.2.1⟩:_∧k_≠gb169))) (fun _ hk=>hk.1.2) (.slice Ao65 y192.length co65)) (fun _ hk=>hk.2) (.string t173)) (fun _ hk=>hk.2) (.string t174)) (fun _ hk=>hk.2) (.bool t175)) (fun _ hk=>hk.2) (.slice Ao65 y192.length co65)) (fun _ hk=>hk.1.1.1),by repeat (first|(with_reducible first|exact HI0.out|apply IsS104.alloc|apply IsS104.drewN|apply IsS104.drew|apply IsS104.set_1|apply IsS104.set_2|refine IsS104.far ?_ NB0_169.out _|refine IsS104.far ?_ NB0_181.out _)|exact HI0.out),by repeat (first|(with_reducible first|exact HB.out|apply below_alloc|apply pw_below_drewN|apply below_drew1|refine below_set ?_ (IsS104.ge HI0.out)|refine below_set ?_ GE169.out|refine below_set ?_ GE181.out)|exact HB.out),by repeat (first|(with_reducible first|exact HK.out|apply KeepBut.set_|apply keep_drewN|apply keep_drew|apply keep_alloc|refine keep_far ?_ GW169.out _|refine keep_far ?_ GW181.out _)|exact HK.out)⟩
     ·rw [if_neg c53] at H
      exact absurd H (by simp)
    ·rw [if_neg c52] at H
     have c52b0:(t182 == 3)=false:=beq_eq_false_iff_ne.mpr c52
     have c52b1:(t182 != 3)=true:=bne_iff_ne.mpr c52
     by_cases c69:t182=4
     ·rw [if_pos c69] at H
      have c69b0:(t182 == 4)=true:=beq_iff_eq.mpr c69
      have c69b1:(t182 != 4)=false:=bne_eq_false_iff_eq.mpr c69
      clear c69
      replace H:=Option.bind_eq_some_iff.mp H
      obtain ⟨⟨t195,t196,t197,t198⟩,A700,H⟩:=H
      replace H:(spec_l01DrawAny.l0 k 1 s0_0 t183 t184 t195 t196 t197 t198)=some (r1,r2,r3,r4,r5,r6):=H
      have A70:=A0_ A700
      clear A700
      have H':=A0_ H
      clear H
      go_enter Try.func39,Try.ntmps39
      go_wp2_with (first|((with_reducible refine gate_dst (N:=2) rfl ?_);refine box_event ?hg (N:=2) ?hd (cs:= #[.string (⟨#[]⟩:ByteArray), .string (⟨#[]⟩:ByteArray), .bool false, .slice none 0 0]) (t:=26) ?hr ?_;(case hd=>rfl);(case hg=>rfl);(case hr=>first|(go_simp;done)|(go_simp;rfl));intro gb169 hg w71 hbox hb;replace HB:=A0_ (below_step HB.out hb);have BK169:=A0_ (hbox);have GW169:=A0_ ((by rw [hg];exact (keep_size (w:=w) (row:=none) HK.out):w.heap.size≤gb169));have GE169:=A0_ ((Nat.le_trans HW0.out (by rw [hg];exact (keep_size (w:=w) (row:=none) HK.out):w.heap.size≤gb169):w0.heap.size≤gb169));replace HK:=A0_ (KeepBut.trans HK.out (KeepBut.of_below hb g none) (.inl rfl));have NB0_169:=A0_ ((by rw [hg];exact Nat.ne_of_lt (IsS104.lt (show IsS104 w0 _ g s0_0 s0_1 s0_2 from by repeat (first|(with_reducible first|exact HI0.out|apply IsS104.alloc|apply IsS104.drewN|apply IsS104.drew|apply IsS104.set_1|apply IsS104.set_2)|exact HI0.out))):g≠gb169));have NB169_0:=A0_ ((by rw [hg];exact Nat.ne_of_gt (IsS104.lt (show IsS104 w0 _ g s0_0 s0_1 s0_2 from by repeat (first|(with_reducible first|exact HI0.out|apply IsS104.alloc|apply IsS104.drewN|apply IsS104.drew|apply IsS104.set_1|apply IsS104.set_2)|exact HI0.out))):gb169≠g));replace HI0:=A0_ (IsS104.below HI0.out hb);clear hb hbox hg)|((with_reducible refine gate_callee (f:=84) rfl ?_);refine goesL_ (some 11) rfl rfl Try.func84 (by kernel_rfl) rfl #[.pointer (some ⟨g,0,none⟩), .int .i64 5] rfl (by (try simp only [List.map_toArray,List.map_cons,List.map_nil]);first|done|rfl|(simp only [List.length_drop,List.length_take];rfl)) ?_;(with_reducible refine (spec_l01Cur_size.calls g s0_0 s0_1 s0_2 5 t170 t171 t172 w0 _ ?side1 ?side2 A2.out).mono ?_);(case side1=>repeat (first|(with_reducible first|exact HI0.out|apply IsS104.alloc|apply IsS104.drewN|apply IsS104.drew|apply IsS104.set_1|apply IsS104.set_2|refine IsS104.far ?_ NB0_169.out _)|exact HI0.out));(case side2=>repeat (first|(with_reducible first|exact HB.out|apply below_alloc|apply pw_below_drewN|apply below_drew1|refine below_set ?_ (IsS104.ge HI0.out)|refine below_set ?_ GE169.out)|exact HB.out));rintro e w72 ⟨rfl,hi,hb,hk⟩;refine ⟨_,rfl, ?_⟩;replace BK169:=A0_ (KeepBut.blk hk BK169.out NB169_0.out (by simp));replace HK:=A0_ (KeepBut.trans HK.out hk (.inl rfl));replace HB:=A0_ (hb);replace HI0:=A0_ (hi);(try clear hb);(try clear hb2);(try clear hk);(try clear hi))|((with_reducible refine gate_callee (f:=37) rfl ?_);refine goesL_ (some 13) rfl rfl Try.func37 (by kernel_rfl) rfl #[.pointer (some ⟨g,0,none⟩), .int .i64 (wrap64 (1 + t170))] rfl (by (try simp only [List.map_toArray,List.map_cons,List.map_nil]);first|done|rfl|(simp only [List.length_drop,List.length_take];rfl)) ?_;(with_reducible refine (spec_l01DrawTree.calls k g s0_0 t171 t172 (wrap64 (1 + t170)) t173 t174 t175 t176 t179 t180 w0 _ ?side1 ?side2 A3.out).mono ?_);(case side1=>repeat (first|(with_reducible first|exact HI0.out|apply IsS104.alloc|apply IsS104.drewN|apply IsS104.drew|apply IsS104.set_1|apply IsS104.set_2|refine IsS104.far ?_ NB0_169.out _)|exact HI0.out));(case side2=>repeat (first|(with_reducible first|exact HB.out|apply below_alloc|apply pw_below_drewN|apply below_drew1|refine below_set ?_ (IsS104.ge HI0.out)|refine below_set ?_ GE169.out)|exact HB.out));rintro e w73 ⟨v177,rfl,ho0,hi,hb,hk⟩;refine ⟨_,rfl, ?_⟩;have HO178:=A0_ (Kd.N_lower (Kd.N_mono (ok':=fun k_=>(w.heap.size≤k_)∧k_≠gb169∧k_≠g) (Kd.R_N (Kd.R_bound ho0)) (fun k_ hk_=>⟨(Nat.le_trans (keep_size (w:=w) (row:=none) HK.out) hk_.2.1),(Kd.freshB BK169.out k_ hk_.2.1),(IsS104.fresh HI0.out k_ hk_.2.1)⟩)) (keep_size (w:=w) (row:=none) HK.out));replace BK169:=A0_ (KeepBut.blk hk BK169.out NB169_0.out (by simp));replace HK:=A0_ (KeepBut.trans HK.out hk (.inl rfl));replace HB:=A0_ (hb);replace HI0:=A0_ (hi);(try clear hb);(try clear hb2);(try clear hk);(try clear hi);(try clear ho0))|((with_reducible refine gate_dst (N:=3) rfl ?_);refine box_event ?hg (N:=3) ?hd (cs:= #[.string (⟨#[]⟩:ByteArray), .string (⟨#[]⟩:ByteArray), .bool false, .slice none 0 0]) (t:=26) ?hr ?_;(case hd=>rfl);(case hg=>rfl);(case hr=>first|(go_simp;done)|(go_simp;rfl));intro gb181 hg w74 hbox hb;replace HO178:=A0_ (Kd.N_below (Kd.N_elderB HO178.out gb181 (Nat.le_of_eq hg.symm)) hb);replace HB:=A0_ (below_step HB.out hb);have BK181:=A0_ (hbox);have GW181:=A0_ ((by rw [hg];exact (keep_size (w:=w) (row:=none) HK.out):w.heap.size≤gb181));have GE181:=A0_ ((Nat.le_trans HW0.out (by rw [hg];exact (keep_size (w:=w) (row:=none) HK.out):w.heap.size≤gb181):w0.heap.size≤gb181));replace HK:=A0_ (KeepBut.trans HK.out (KeepBut.of_below hb g none) (.inl rfl));have NB169_181:=A0_ ((by rw [hg];exact Nat.ne_of_lt (blk_lt BK169.out):gb169≠gb181));have NB181_169:=A0_ ((by rw [hg];exact Nat.ne_of_gt (blk_lt BK169.out):gb181≠gb169));replace BK169:=A0_ (blk_below BK169.out hb);have NB0_181:=A0_ ((by rw [hg];exact Nat.ne_of_lt (IsS104.lt (show IsS104 w0 _ g s0_0 t179 t180 from by repeat (first|(with_reducible first|exact HI0.out|apply IsS104.alloc|apply IsS104.drewN|apply IsS104.drew|apply IsS104.set_1|apply IsS104.set_2|refine IsS104.far ?_ NB0_169.out _)|exact HI0.out))):g≠gb181));have NB181_0:=A0_ ((by rw [hg];exact Nat.ne_of_gt (IsS104.lt (show IsS104 w0 _ g s0_0 t179 t180 from by repeat (first|(with_reducible first|exact HI0.out|apply IsS104.alloc|apply IsS104.drewN|apply IsS104.drew|apply IsS104.set_1|apply IsS104.set_2|refine IsS104.far ?_ NB0_169.out _)|exact HI0.out))):gb181≠g));replace HI0:=A0_ (IsS104.below HI0.out hb);clear hb hbox hg;have hnb75:=NB181_169.out;have hnc75:=NB169_181.out;have hnb76:=NB181_0.out;have hnc76:=NB0_181.out;obtain ⟨hcz77_0,hcz77_1,hcz77_2,hcz77_3⟩:=bc4_ BK181.out;obtain ⟨hfz77_0,hfz77_1,hfz77_2,hfz77_3⟩:=bf4_ BK181.out;obtain ⟨Ao78,co78,eo78⟩:=Kd.N_slice HO178.out;subst eo78)|((with_reducible refine gate_callee (f:=38) rfl ?_);refine goesL_ (some 15) rfl rfl Try.func38 (by kernel_rfl) rfl #[.pointer (some ⟨g,0,none⟩), .int .i64 24] rfl (by (try simp only [List.map_toArray,List.map_cons,List.map_nil]);first|done|rfl|(simp only [List.length_drop,List.length_take];rfl)) ?_;(with_reducible refine (spec_l01Cur_pick.calls g s0_0 t179 t180 24 t182 t183 t184 w0 _ ?side1 ?side2 A4.out).mono ?_);(case side1=>repeat (first|(with_reducible first|exact HI0.out|apply IsS104.alloc|apply IsS104.drewN|apply IsS104.drew|apply IsS104.set_1|apply IsS104.set_2|refine IsS104.far ?_ NB0_169.out _|refine IsS104.far ?_ NB0_181.out _)|exact HI0.out));(case side2=>repeat (first|(with_reducible first|exact HB.out|apply below_alloc|apply pw_below_drewN|apply below_drew1|refine below_set ?_ (IsS104.ge HI0.out)|refine below_set ?_ GE169.out|refine below_set ?_ GE181.out)|exact HB.out));rintro e w79 ⟨rfl,hi,hb,hk⟩;refine ⟨_,rfl, ?_⟩;replace BK169:=A0_ (KeepBut.blk hk (g':=gb169) (o:= .cells #[.string (⟨#[]⟩:ByteArray), .string (⟨#[]⟩:ByteArray), .bool false, .slice none 0 0] 26 (0,0)) (by (with_reducible repeat (first|refine blk_drewN ?_ _|refine blk_drew ?_|refine blk_alloc ?_ _));refine blk_far ?_ NB169_181.out _;(with_reducible repeat (first|refine blk_drewN ?_ _|refine blk_drew ?_|refine blk_alloc ?_ _));refine blk_far ?_ NB169_181.out _;(with_reducible repeat (first|refine blk_drewN ?_ _|refine blk_drew ?_|refine blk_alloc ?_ _));refine blk_far ?_ NB169_181.out _;(with_reducible repeat (first|refine blk_drewN ?_ _|refine blk_drew ?_|refine blk_alloc ?_ _));refine blk_far ?_ NB169_181.out _;(with_reducible repeat (first|refine blk_drewN ?_ _|refine blk_drew ?_|refine blk_alloc ?_ _));exact BK169.out) NB169_0.out (by simp));replace HO178:=A0_ (Kd.N_mono (Kd.N_keep (Kd.N_mono (ok:=fun k_=>((((w.heap.size≤k_))∧(k_≠gb169∧k_≠g))∧k_≠gb181)) (Kd.N_mono (Kd.N_far (p:=⟨gb181,3,none⟩) (Kd.N_far (p:=⟨gb181,2,none⟩) (Kd.N_far (p:=⟨gb181,1,none⟩) (Kd.N_far (p:=⟨gb181,0,none⟩) (Kd.N_mono HO178.out (fun k_ hk=>(⟨hk,hk.2⟩:_∧k_≠gb181))) (fun _ hk=>hk.2) (.string t173)) (fun _ hk=>hk.2) (.string t174)) (fun _ hk=>hk.2) (.bool t175)) (fun _ hk=>hk.2) (.slice Ao78 t176.length co78)) (fun _ h_=>h_.1)) (fun k_ hk_=>(⟨hk_,(by first|exact hk_.1.2.2|(have hk0_:=hk_;revert hk0_;(try simp only [and_imp]);intros;(repeat' apply And.intro) <;> assumption))⟩:_∧k_≠g))) hk (fun _ h=>h.2)) (fun _ h=>h.1));replace BK181:=A0_ (KeepBut.blk hk (g':=gb181) (o:= .cells #[.string t173, .string t174, .bool t175, .slice Ao78 t176.length co78] 26 (0,0)) (by (with_reducible repeat (first|refine blk_drewN ?_ _|refine blk_drew ?_|refine blk_alloc ?_ _));refine blk_put (cs:= #[.string t173, .string t174, .bool t175, .slice none 0 0]) ?_ 3 _ rfl;(with_reducible repeat (first|refine blk_drewN ?_ _|refine blk_drew ?_|refine blk_alloc ?_ _));refine blk_put (cs:= #[.string t173, .string t174, .bool false, .slice none 0 0]) ?_ 2 _ rfl;(with_reducible repeat (first|refine blk_drewN ?_ _|refine blk_drew ?_|refine blk_alloc ?_ _));refine blk_put (cs:= #[.string t173, .string (⟨#[]⟩:ByteArray), .bool false, .slice none 0 0]) ?_ 1 _ rfl;(with_reducible repeat (first|refine blk_drewN ?_ _|refine blk_drew ?_|refine blk_alloc ?_ _));refine blk_put (cs:= #[.string (⟨#[]⟩:ByteArray), .string (⟨#[]⟩:ByteArray), .bool false, .slice none 0 0]) ?_ 0 _ rfl;(with_reducible repeat (first|refine blk_drewN ?_ _|refine blk_drew ?_|refine blk_alloc ?_ _));exact BK181.out) NB181_0.out (by simp));replace HK:=A0_ (KeepBut.trans (by repeat (first|(with_reducible first|exact HK.out|apply KeepBut.set_|apply keep_drewN|apply keep_drew|apply keep_alloc|refine keep_far ?_ GW169.out _|refine keep_far ?_ GW181.out _)|exact HK.out)) hk (.inl rfl));replace HB:=A0_ (hb);replace HI0:=A0_ (hi);(try clear hb);(try clear hb2);(try clear hk);(try clear hi))|((with_reducible refine gate_callee (f:=79) rfl ?_);refine goesL_ (some 46) rfl rfl Try.func79 (by kernel_rfl) rfl #[.string (⟨#[97]⟩:ByteArray), .string (⟨#[]⟩:ByteArray)] rfl (by (try simp only [List.map_toArray,List.map_cons,List.map_nil]);first|done|rfl|(simp only [List.length_drop,List.length_take];rfl)) ?_;(with_reducible refine (spec_l01Leaf.calls (⟨#[97]⟩:ByteArray) (⟨#[]⟩:ByteArray) t195 t196 t197 t198 _ A70.out).mono ?_);rintro e w80 ⟨v199,rfl,ho0,hb⟩;refine ⟨_,rfl, ?_⟩;have HO200:=A0_ (Kd.N_lower (Kd.N_mono (ok':=fun k_=>(w.heap.size≤k_)∧some k_≠(.slice Ao78 t176.length co78:Value).ownBlock∧k_≠gb169∧k_≠gb181∧k_≠g) (Kd.R_N (Kd.R_bound ho0)) (fun k_ hk_=>⟨(Nat.le_trans (keep_size (w:=w) (row:=none) HK.out) hk_.2.1),(Kd.fresh' (Kd.N_lt HO178.out) k_ hk_.2.1),(Kd.freshB BK169.out k_ hk_.2.1),(Kd.freshB BK181.out k_ hk_.2.1),(IsS104.fresh HI0.out k_ hk_.2.1)⟩)) (keep_size (w:=w) (row:=none) HK.out));replace HO178:=A0_ (Kd.N_elder' HO178.out (Kd.R_base ho0) hb);replace HI0:=A0_ (IsS104.below HI0.out hb);replace BK169:=A0_ (blk_below BK169.out hb);replace BK181:=A0_ (blk_below BK181.out hb);replace HK:=A0_ (KeepBut.trans HK.out (KeepBut.of_below hb g none) (.inl rfl));replace HB:=A0_ (below_step HB.out hb);(try clear hb);(try clear hb2);(try clear hk);(try clear hi);(try clear ho0);obtain ⟨hcz81_0,hcz81_1,hcz81_2,hcz81_3⟩:=bc4_ BK181.out;obtain ⟨hfz81_0,hfz81_1,hfz81_2,hfz81_3⟩:=bf4_ BK181.out;obtain ⟨Ao82,co82,eo82⟩:=Kd.N_slice HO200.out;subst eo82))
      go_loopg [4] k (fun kq v4 w'=> ∃ (x4_1:Int) (x1001_1:Int) (x1002_1:Int) (x182000_1:ByteArray) (x182001_1:ByteArray) (x182002_1:Bool) (x182003_1:List (S26)) (u182003:Value),v4= .int .i64 x4_1∧Aside0 (spec_l01DrawAny.l0 kq x4_1 s0_0 x1001_1 x1002_1 x182000_1 x182001_1 x182002_1 x182003_1=some (r1,r2,r3,r4,r5,r6))∧Aside0 (kq≤k)∧Aside0 (Kd.N k26 26 w' w.heap.size (fun k_=>(w.heap.size≤k_)∧k_≠gb169∧k_≠gb181∧k_≠g) u182003 x182003_1)∧Aside0 (w'.heap[gb169]?= some (.cells #[.string (⟨#[]⟩:ByteArray), .string (⟨#[]⟩:ByteArray), .bool false,(.slice none 0 0)] 26 (0,0)))∧Aside0 (w'.heap[gb181]?= some (.cells #[.string x182000_1, .string x182001_1, .bool x182002_1,u182003] 26 (0,0)))∧Aside0 (IsS104 w0 w' g s0_0 x1001_1 x1002_1)∧Aside0 (KeepBut w w' g none)∧Aside0 (Below w0.heap.size w0 w'))
      case atStart=>exact ⟨(1),(t183),(t184),(t195),(t196),(t197),(t198),(.slice Ao82 t198.length co82),(by first|rfl|(simp;done)|(simp [*];done)|(simp [bne];done)|(simp [bne, *];done)),H',⟨Nat.le_refl _⟩,⟨by (with_reducible repeat (first|apply Kd.N_alloc|apply Kd.N_drewN|apply Kd.N_drew));exact Kd.N_mono (Kd.N_far (p:=⟨gb181,3,none⟩) (Kd.N_far (p:=⟨gb181,2,none⟩) (Kd.N_far (p:=⟨gb181,1,none⟩) (Kd.N_far (p:=⟨gb181,0,none⟩) (Kd.N_mono HO200.out (fun k_ hk=>(⟨hk,hk.2.2.2.1⟩:_∧k_≠gb181))) (fun _ hk=>hk.2) (.string t195)) (fun _ hk=>hk.2) (.string t196)) (fun _ hk=>hk.2) (.bool t197)) (fun _ hk=>hk.2) (.slice Ao82 t198.length co82)) (fun _ hk=>⟨hk.1.1,⟨hk.1.2.2.1,⟨hk.1.2.2.2.1,hk.1.2.2.2.2⟩⟩⟩)⟩,⟨by (with_reducible repeat (first|refine blk_drewN ?_ _|refine blk_drew ?_|refine blk_alloc ?_ _));refine blk_far ?_ NB169_181.out _;(with_reducible repeat (first|refine blk_drewN ?_ _|refine blk_drew ?_|refine blk_alloc ?_ _));refine blk_far ?_ NB169_181.out _;(with_reducible repeat (first|refine blk_drewN ?_ _|refine blk_drew ?_|refine blk_alloc ?_ _));refine blk_far ?_ NB169_181.out _;(with_reducible repeat (first|refine blk_drewN ?_ _|refine blk_drew ?_|refine blk_alloc ?_ _));refine blk_far ?_ NB169_181.out _;(with_reducible repeat (first|refine blk_drewN ?_ _|refine blk_drew ?_|refine blk_alloc ?_ _));exact BK169.out⟩,⟨by (with_reducible repeat (first|refine blk_drewN ?_ _|refine blk_drew ?_|refine blk_alloc ?_ _));refine blk_put (cs:= #[.string t195, .string t196, .bool t197, .slice Ao78 t176.length co78]) ?_ 3 _ rfl;(with_reducible repeat (first|refine blk_drewN ?_ _|refine blk_drew ?_|refine blk_alloc ?_ _));refine blk_put (cs:= #[.string t195, .string t196, .bool t175, .slice Ao78 t176.length co78]) ?_ 2 _ rfl;(with_reducible repeat (first|refine blk_drewN ?_ _|refine blk_drew ?_|refine blk_alloc ?_ _));refine blk_put (cs:= #[.string t195, .string t174, .bool t175, .slice Ao78 t176.length co78]) ?_ 1 _ rfl;(with_reducible repeat (first|refine blk_drewN ?_ _|refine blk_drew ?_|refine blk_alloc ?_ _));refine blk_put (cs:= #[.string t173, .string t174, .bool t175, .slice Ao78 t176.length co78]) ?_ 0 _ rfl;(with_reducible repeat (first|refine blk_drewN ?_ _|refine blk_drew ?_|refine blk_alloc ?_ _));exact BK181.out⟩,⟨by repeat (first|(with_reducible first|exact HI0.out|apply IsS104.alloc|apply IsS104.drewN|apply IsS104.drew|apply IsS104.set_1|apply IsS104.set_2|refine IsS104.far ?_ NB0_169.out _|refine IsS104.far ?_ NB0_181.out _)|exact HI0.out)⟩,⟨by repeat (first|(with_reducible first|exact HK.out|apply KeepBut.set_|apply keep_drewN|apply keep_drew|apply keep_alloc|refine keep_far ?_ GW169.out _|refine keep_far ?_ GW181.out _)|exact HK.out)⟩,⟨by repeat (first|(with_reducible first|exact HB.out|apply below_alloc|apply pw_below_drewN|apply below_drew1|refine below_set ?_ (IsS104.ge HI0.out)|refine below_set ?_ GE169.out|refine below_set ?_ GE181.out)|exact HB.out)⟩⟩
      case round=>
       clear H'
       try clear c1
       try clear p1
       try clear q1
       try clear hx1
       try clear c2
       try clear p2
       try clear c3
       try clear c4
       try clear c5
       try clear c5b0
       try clear c5b1
       try clear c6
       try clear p6
       try clear c7
       try clear c7b0
       try clear c8
       try clear c8b0
       try clear c13
       try clear c14
       try clear p19
       try clear q19
       try clear hx19
       try clear c23
       try clear c25
       try clear c25b0
       try clear c25b1
       try clear c30
       try clear c31
       try clear c36
       try clear c37
       try clear c38
       try clear c38b0
       try clear c38b1
       try clear c39
       try clear c39b0
       try clear c39b1
       try clear c39b2
       try clear c44
       try clear c45
       try clear c50
       try clear c52
       try clear c52b0
       try clear c52b1
       try clear c53
       try clear c58
       try clear c59
       try clear p64
       try clear c67
       try clear c69
       try clear c69b0
       try clear c69b1
       try clear c75
       try clear c76
       try clear c79
       try clear hcz15_0
       try clear hcz15_1
       try clear hcz15_2
       try clear hcz15_3
       try clear hcz22_0
       try clear hcz22_1
       try clear hcz22_2
       try clear hcz22_3
       try clear hcz24_0
       try clear hcz24_1
       try clear hcz24_2
       try clear hcz24_3
       try clear hcz32_0
       try clear hcz32_1
       try clear hcz32_2
       try clear hcz32_3
       try clear hcz35_0
       try clear hcz35_1
       try clear hcz35_2
       try clear hcz35_3
       try clear hcz37_0
       try clear hcz37_1
       try clear hcz37_2
       try clear hcz37_3
       try clear hcz46_0
       try clear hcz46_1
       try clear hcz46_2
       try clear hcz46_3
       try clear hcz49_0
       try clear hcz49_1
       try clear hcz49_2
       try clear hcz49_3
       try clear hcz51_0
       try clear hcz51_1
       try clear hcz51_2
       try clear hcz51_3
       try clear hcz60_0
       try clear hcz60_1
       try clear hcz60_2
       try clear hcz60_3
       try clear hcz63_0
       try clear hcz63_1
       try clear hcz63_2
       try clear hcz63_3
       try clear hcz66_0
       try clear hcz66_1
       try clear hcz66_2
       try clear hcz66_3
       try clear hcz68_0
       try clear hcz68_1
       try clear hcz68_2
       try clear hcz68_3
       try clear hcz77_0
       try clear hcz77_1
       try clear hcz77_2
       try clear hcz77_3
       try clear hcz81_0
       try clear hcz81_1
       try clear hcz81_2
       try clear hcz81_3
       try clear hfz15_0
       try clear hfz15_1
       try clear hfz15_2
       try clear hfz15_3
       try clear hfz22_0
       try clear hfz22_1
       try clear hfz22_2
       try clear hfz22_3
       try clear hfz24_0
       try clear hfz24_1
       try clear hfz24_2
       try clear hfz24_3
       try clear hfz32_0
       try clear hfz32_1
       try clear hfz32_2
       try clear hfz32_3
       try clear hfz35_0
       try clear hfz35_1
       try clear hfz35_2
       try clear hfz35_3
       try clear hfz37_0
       try clear hfz37_1
       try clear hfz37_2
       try clear hfz37_3
       try clear hfz46_0
       try clear hfz46_1
       try clear hfz46_2
       try clear hfz46_3
       try clear hfz49_0
       try clear hfz49_1
       try clear hfz49_2
       try clear hfz49_3
       try clear hfz51_0
       try clear hfz51_1
       try clear hfz51_2
       try clear hfz51_3
       try clear hfz60_0
       try clear hfz60_1
       try clear hfz60_2
       try clear hfz60_3
       try clear hfz63_0
       try clear hfz63_1
       try clear hfz63_2
       try clear hfz63_3
       try clear hfz66_0
       try clear hfz66_1
       try clear hfz66_2
       try clear hfz66_3
       try clear hfz68_0
       try clear hfz68_1
       try clear hfz68_2
       try clear hfz68_3
       try clear hfz77_0
       try clear hfz77_1
       try clear hfz77_2
       try clear hfz77_3
       try clear hfz81_0
       try clear hfz81_1
       try clear hfz81_2
       try clear hfz81_3
       try clear hx191_0
       try clear p191
       try clear q191
       obtain ⟨x4_1,x1001_1,x1002_1,x182000_1,x182001_1,x182002_1,x182003_1,u182003,rfl,HA,HK1,HO_182003,BK169,BK181,HI0,HK,HB⟩:=hrel
       cases gk with
       |zero=>exact absurd HA.out (by simp [spec_l01DrawAny.l0])
       |succ k1=>
        have H:=HA.out
        clear HA
        simp only [spec_l01DrawAny.l0] at H
        replace H:=Option.bind_eq_some_iff.mp H
        obtain ⟨⟨t201,t202,t203⟩,A830,H⟩:=H
        replace H:(if x4_1 < (wrap64 (60 + t201)) then ((some (([(⟨x182000_1,x182001_1,x182002_1,x182003_1⟩:S26)]:List (S26)):List (S26))).bind fun y204=>((spec_l01Node.f (⟨#[110]⟩:ByteArray) y204).bind fun _=>(spec_l01DrawAny.l0 k1 (wrap64 (x4_1 + 1)) s0_0 t202 t203 (⟨#[110]⟩:ByteArray) (⟨#[]⟩:ByteArray) false y204))) else (some (x182000_1,x182001_1,x182002_1,x182003_1,t202,t203)))=some (r1,r2,r3,r4,r5,r6):=H
        have A83:=A0_ A830
        clear A830
        by_cases c84:x4_1 < (wrap64 (60 + t201))
        ·rw [if_pos c84] at H
         have c84b0:decide (x4_1 < (wrap64 (60 + t201)))=true:=decide_eq_true c84
         clear c84
         obtain ⟨y204,hy204⟩: ∃ y_:List (S26),y_=(([(⟨x182000_1,x182001_1,x182002_1,x182003_1⟩:S26)]:List (S26))):=⟨_,rfl⟩
         replace H:((spec_l01Node.f (⟨#[110]⟩:ByteArray) y204).bind fun _=>(spec_l01DrawAny.l0 k1 (wrap64 (x4_1 + 1)) s0_0 t202 t203 (⟨#[110]⟩:ByteArray) (⟨#[]⟩:ByteArray) false y204))=some (r1,r2,r3,r4,r5,r6):=by first|(rw [hy204];with_reducible exact H)|(have H2_:=(Option.bind_some _ _).symm.trans H;rw [hy204];with_reducible exact H2_)|(have H2_:=(Option.bind_some _ _).symm.trans H;with_reducible exact H2_)|with_reducible exact H|(rw [hy204];exact H)|exact H
         have Ny204:=A0_ hy204
         clear hy204
         replace H:=Option.bind_eq_some_iff.mp H
         obtain ⟨_,A850,H⟩:=H
         replace H:(spec_l01DrawAny.l0 k1 (wrap64 (x4_1 + 1)) s0_0 t202 t203 (⟨#[110]⟩:ByteArray) (⟨#[]⟩:ByteArray) false y204)=some (r1,r2,r3,r4,r5,r6):=H
         have A85:=A0_ A850
         clear A850
         have H':=A0_ H
         clear H
         go_wp2_with (first|((with_reducible refine gate_callee (f:=38) rfl ?_);refine goesL_ (some 49) rfl rfl Try.func38 (by kernel_rfl) rfl #[.pointer (some ⟨g,0,none⟩), .int .i64 2] rfl (by (try simp only [List.map_toArray,List.map_cons,List.map_nil]);first|done|rfl|(simp only [List.length_drop,List.length_take];rfl)) ?_;(with_reducible refine (spec_l01Cur_pick.calls g s0_0 x1001_1 x1002_1 2 t201 t202 t203 w0 _ ?side1 ?side2 A83.out).mono ?_);(case side1=>repeat (first|(with_reducible first|exact HI0.out|apply IsS104.alloc|apply IsS104.drewN|apply IsS104.drew|apply IsS104.set_1|apply IsS104.set_2|refine IsS104.far ?_ NB0_169.out _|refine IsS104.far ?_ NB0_181.out _)|exact HI0.out));(case side2=>repeat (first|(with_reducible first|exact HB.out|apply below_alloc|apply pw_below_drewN|apply below_drew1|refine below_set ?_ (IsS104.ge HI0.out)|refine below_set ?_ GE169.out|refine below_set ?_ GE181.out)|exact HB.out));rintro e w86 ⟨rfl,hi,hb,hk⟩;refine ⟨_,rfl, ?_⟩;replace HO_182003:=A0_ (Kd.N_mono (Kd.N_keep (Kd.N_mono (ok:=fun k_=>(((w.heap.size≤k_))∧(k_≠gb169∧(k_≠gb181∧k_≠g)))) HO_182003.out (fun k_ hk_=>(⟨hk_,(by first|exact hk_.2.2.2|(have hk0_:=hk_;revert hk0_;(try simp only [and_imp]);intros;(repeat' apply And.intro) <;> assumption))⟩:_∧k_≠g))) hk (fun _ h=>h.2)) (fun _ h=>h.1));replace BK169:=A0_ (KeepBut.blk hk BK169.out NB169_0.out (by simp));replace BK181:=A0_ (KeepBut.blk hk BK181.out NB181_0.out (by simp));replace HK:=A0_ (KeepBut.trans HK.out hk (.inl rfl));replace HB:=A0_ (hb);replace HI0:=A0_ (hi);(try clear hb);(try clear hb2);(try clear hk);(try clear hi);have hnb87:=NB181_169.out;have hnc87:=NB169_181.out;have hnb88:=NB181_0.out;have hnc88:=NB0_181.out;obtain ⟨hcz89_0,hcz89_1,hcz89_2,hcz89_3⟩:=bc4_ BK181.out;obtain ⟨hfz89_0,hfz89_1,hfz89_2,hfz89_3⟩:=bf4_ BK181.out;obtain ⟨Ao90,co90,eo90⟩:=Kd.N_slice HO_182003.out;subst eo90)|((with_reducible refine gate_dst (N:=55) rfl ?_);refine Kd.N_lit k26 _ 26 ?hg (N':=55) ?hd (xs:=([(⟨x182000_1,x182001_1,x182002_1,x182003_1⟩:S26)]:List (S26))) (inner:= [.string x182000_1, .string x182001_1, .bool x182002_1, .slice Ao90 x182003_1.length co90]) (ok:=(fun k_=>(w.heap.size≤k_)∧k_≠gb169∧k_≠gb181∧k_≠g)) (okp:=(fun k_=>(w.heap.size≤k_)∧k_≠gb169∧k_≠gb181∧k_≠g)) ?hr ?hp (fun _ hk=>hk) ((show ∀ k_,w86.heap.size≤k_→(fun k_=>(w.heap.size≤k_)∧k_≠gb169∧k_≠gb181∧k_≠g) k_ from fun k_ hk=>⟨(Nat.le_trans (keep_size (w:=w) (g:=g) (row:=none) HK.out) hk),Kd.freshB (g:=gb169) (o:= .cells #[.string (⟨#[]⟩:ByteArray), .string (⟨#[]⟩:ByteArray), .bool false, .slice none 0 0] 26 (0,0)) BK169.out k_ hk,Kd.freshB (g:=gb181) (o:= .cells #[.string x182000_1, .string x182001_1, .bool x182002_1, .slice Ao90 x182003_1.length co90] 26 (0,0)) BK181.out k_ hk,IsS104.fresh HI0.out k_ hk⟩) _ (Nat.le_refl _)) (Below.refl _ _) (Nat.le_refl _) (by simp) ?_;(case hd=>rfl);(case hg=>rfl);(case hr=>first|(go_simp;done)|(go_simp;rfl));(case hp=>exact (Reps.c4 (show Kd.FK k26 _ _ (⟨x182000_1,x182001_1,x182002_1,x182003_1⟩:S26) [.string x182000_1, .string x182001_1, .bool x182002_1, .slice Ao90 x182003_1.length co90] from (k26_mkF _ _ (⟨x182000_1,x182001_1,x182002_1,x182003_1⟩:S26) (Kd.N_reads' (Kd.N_mono (ok':=(fun k_=>(w.heap.size≤k_)∧k_≠gb169∧k_≠gb181∧k_≠g)) (HO_182003.out) (fun k_ hk=>⟨hk.1,⟨hk.2.1,⟨hk.2.2.1,hk.2.2.2⟩⟩⟩))).2.1 (Kd.N_F (Kd.N_mono (ok':=(fun k_=>(w.heap.size≤k_)∧k_≠gb169∧k_≠gb181∧k_≠g)) (HO_182003.out) (fun k_ hk=>⟨hk.1,⟨hk.2.1,⟨hk.2.2.1,hk.2.2.2⟩⟩⟩))))) (Reps.none _ _)));intro v205 w91 ho92 hb hg_ hnew_;clear hg_ hnew_;(first|rw [← Ny204.out] at ho92|(simp only [Int.reduceToNat] at ho92;rw [← Ny204.out] at ho92));have n0_:=A0_ (Kd.N_lower ho92 (keep_size (w:=w) (row:=none) HK.out));have n1_:=A0_ (blk_below BK169.out hb);have n2_:=A0_ (blk_below BK181.out hb);have n3_:=A0_ (IsS104.below HI0.out hb);have n4_:=A0_ (KeepBut.trans HK.out (KeepBut.of_below hb g none) (.inl rfl));have n5_:=A0_ (below_step HB.out hb);clear BK169;clear BK181;clear HI0;clear HK;clear HB;clear HO_182003;have HO206:=n0_;have BK169:=n1_;have BK181:=n2_;have HI0:=n3_;have HK:=n4_;have HB:=n5_;clear n0_ n1_ n2_ n3_ n4_ n5_;clear hb ho92;obtain ⟨Ao93,co93,eo93⟩:=Kd.N_slice HO206.out;subst eo93)|((with_reducible refine gate_callee (f:=82) rfl ?_);refine goesL_ (some 56) rfl rfl Try.func82 (by kernel_rfl) rfl #[.string (⟨#[110]⟩:ByteArray), .slice Ao93 y204.length co93] rfl (by (try simp only [List.map_toArray,List.map_cons,List.map_nil]);first|done|rfl|(simp only [List.length_drop,List.length_take];rfl)) ?_;(with_reducible refine (spec_l01Node.calls (⟨#[110]⟩:ByteArray) _ _ y204 _ ?side1 ?side2 A85.out).mono ?_);(case side1=>repeat (first|exact (Kd.N_reads' HO206.out).2.2|(with_reducible refine Kd.C_alloc ?_ _)|(with_reducible refine Kd.C_drewN ?_ _)|(with_reducible refine Kd.C_drew ?_)));(case side2=>exact (Kd.N_reads' HO206.out).2.1);rintro e w94 ⟨rfl,hb⟩;refine ⟨_,rfl, ?_⟩;replace HO206:=A0_ (Kd.N_below HO206.out hb);replace BK169:=A0_ (blk_below BK169.out hb);replace BK181:=A0_ (blk_below BK181.out hb);replace HI0:=A0_ (IsS104.below HI0.out hb);replace HK:=A0_ (KeepBut.trans HK.out (KeepBut.of_below hb g none) (.inl rfl));replace HB:=A0_ (below_step HB.out hb);(try clear hb);(try clear hb2);(try clear hk);(try clear hi);obtain ⟨hcz95_0,hcz95_1,hcz95_2,hcz95_3⟩:=bc4_ BK181.out;obtain ⟨hfz95_0,hfz95_1,hfz95_2,hfz95_3⟩:=bf4_ BK181.out))
         go_roundg k1
         case measure=>have:=HK1.out;omega
         case rel=>exact ⟨(wrap64 (x4_1 + 1)),(t202),(t203),((⟨#[110]⟩:ByteArray)),((⟨#[]⟩:ByteArray)),(false),(y204),(.slice Ao93 y204.length co93),(by first|rfl|(simp;done)|(simp [*];done)|(simp [bne];done)|(simp [bne, *];done)),H',⟨by have:=HK1.out;omega⟩,⟨by (with_reducible repeat (first|apply Kd.N_alloc|apply Kd.N_drewN|apply Kd.N_drew));exact Kd.N_mono (Kd.N_far (p:=⟨gb181,3,none⟩) (Kd.N_far (p:=⟨gb181,2,none⟩) (Kd.N_far (p:=⟨gb181,1,none⟩) (Kd.N_far (p:=⟨gb181,0,none⟩) (Kd.N_mono HO206.out (fun k_ hk=>(⟨hk,hk.2.2.1⟩:_∧k_≠gb181))) (fun _ hk=>hk.2) (.string (⟨#[110]⟩:ByteArray))) (fun _ hk=>hk.2) (.string (⟨#[]⟩:ByteArray))) (fun _ hk=>hk.2) (.bool false)) (fun _ hk=>hk.2) (.slice Ao93 y204.length co93)) (fun _ hk=>⟨hk.1.1,⟨hk.1.2.1,⟨hk.1.2.2.1,hk.1.2.2.2⟩⟩⟩)⟩,⟨by (with_reducible repeat (first|refine blk_drewN ?_ _|refine blk_drew ?_|refine blk_alloc ?_ _));refine blk_far ?_ NB169_181.out _;(with_reducible repeat (first|refine blk_drewN ?_ _|refine blk_drew ?_|refine blk_alloc ?_ _));refine blk_far ?_ NB169_181.out _;(with_reducible repeat (first|refine blk_drewN ?_ _|refine blk_drew ?_|refine blk_alloc ?_ _));refine blk_far ?_ NB169_181.out _;(with_reducible repeat (first|refine blk_drewN ?_ _|refine blk_drew ?_|refine blk_alloc ?_ _));refine blk_far ?_ NB169_181.out _;(with_reducible repeat (first|refine blk_drewN ?_ _|refine blk_drew ?_|refine blk_alloc ?_ _));exact BK169.out⟩,⟨by (with_reducible repeat (first|refine blk_drewN ?_ _|refine blk_drew ?_|refine blk_alloc ?_ _));refine blk_put (cs:= #[.string (⟨#[110]⟩:ByteArray), .string (⟨#[]⟩:ByteArray), .bool false, .slice Ao90 x182003_1.length co90]) ?_ 3 _ rfl;(with_reducible repeat (first|refine blk_drewN ?_ _|refine blk_drew ?_|refine blk_alloc ?_ _));refine blk_put (cs:= #[.string (⟨#[110]⟩:ByteArray), .string (⟨#[]⟩:ByteArray), .bool x182002_1, .slice Ao90 x182003_1.length co90]) ?_ 2 _ rfl;(with_reducible repeat (first|refine blk_drewN ?_ _|refine blk_drew ?_|refine blk_alloc ?_ _));refine blk_put (cs:= #[.string (⟨#[110]⟩:ByteArray), .string x182001_1, .bool x182002_1, .slice Ao90 x182003_1.length co90]) ?_ 1 _ rfl;(with_reducible repeat (first|refine blk_drewN ?_ _|refine blk_drew ?_|refine blk_alloc ?_ _));refine blk_put (cs:= #[.string x182000_1, .string x182001_1, .bool x182002_1, .slice Ao90 x182003_1.length co90]) ?_ 0 _ rfl;(with_reducible repeat (first|refine blk_drewN ?_ _|refine blk_drew ?_|refine blk_alloc ?_ _));exact BK181.out⟩,⟨by repeat (first|(with_reducible first|exact HI0.out|apply IsS104.alloc|apply IsS104.drewN|apply IsS104.drew|apply IsS104.set_1|apply IsS104.set_2|refine IsS104.far ?_ NB0_169.out _|refine IsS104.far ?_ NB0_181.out _)|exact HI0.out)⟩,⟨by repeat (first|(with_reducible first|exact HK.out|apply KeepBut.set_|apply keep_drewN|apply keep_drew|apply keep_alloc|refine keep_far ?_ GW169.out _|refine keep_far ?_ GW181.out _)|exact HK.out)⟩,⟨by repeat (first|(with_reducible first|exact HB.out|apply below_alloc|apply pw_below_drewN|apply below_drew1|refine below_set ?_ (IsS104.ge HI0.out)|refine below_set ?_ GE169.out|refine below_set ?_ GE181.out)|exact HB.out)⟩⟩
        ·rw [if_neg c84] at H
         have c84b0:decide (x4_1 < (wrap64 (60 + t201)))=false:=decide_eq_false c84
         clear c84
         simp only [Option.some.injEq,Prod.mk.injEq] at H
         obtain ⟨rfl,rfl,rfl,rfl,rfl,rfl⟩:=H
         go_wp2_with (first|((with_reducible refine gate_callee (f:=38) rfl ?_);refine goesL_ (some 49) rfl rfl Try.func38 (by kernel_rfl) rfl #[.pointer (some ⟨g,0,none⟩), .int .i64 2] rfl (by (try simp only [List.map_toArray,List.map_cons,List.map_nil]);first|done|rfl|(simp only [List.length_drop,List.length_take];rfl)) ?_;(with_reducible refine (spec_l01Cur_pick.calls g s0_0 x1001_1 x1002_1 2 t201 t202 t203 w0 _ ?side1 ?side2 A83.out).mono ?_);(case side1=>repeat (first|(with_reducible first|exact HI0.out|apply IsS104.alloc|apply IsS104.drewN|apply IsS104.drew|apply IsS104.set_1|apply IsS104.set_2|refine IsS104.far ?_ NB0_169.out _|refine IsS104.far ?_ NB0_181.out _)|exact HI0.out));(case side2=>repeat (first|(with_reducible first|exact HB.out|apply below_alloc|apply pw_below_drewN|apply below_drew1|refine below_set ?_ (IsS104.ge HI0.out)|refine below_set ?_ GE169.out|refine below_set ?_ GE181.out)|exact HB.out));rintro e w96 ⟨rfl,hi,hb,hk⟩;refine ⟨_,rfl, ?_⟩;replace HO_182003:=A0_ (Kd.N_mono (Kd.N_keep (Kd.N_mono (ok:=fun k_=>(((w.heap.size≤k_))∧(k_≠gb169∧(k_≠gb181∧k_≠g)))) HO_182003.out (fun k_ hk_=>(⟨hk_,(by first|exact hk_.2.2.2|(have hk0_:=hk_;revert hk0_;(try simp only [and_imp]);intros;(repeat' apply And.intro) <;> assumption))⟩:_∧k_≠g))) hk (fun _ h=>h.2)) (fun _ h=>h.1));replace BK169:=A0_ (KeepBut.blk hk BK169.out NB169_0.out (by simp));replace BK181:=A0_ (KeepBut.blk hk BK181.out NB181_0.out (by simp));replace HK:=A0_ (KeepBut.trans HK.out hk (.inl rfl));replace HB:=A0_ (hb);replace HI0:=A0_ (hi);(try clear hb);(try clear hb2);(try clear hk);(try clear hi);have hnb97:=NB181_169.out;have hnc97:=NB169_181.out;have hnb98:=NB181_0.out;have hnc98:=NB0_181.out;obtain ⟨hcz99_0,hcz99_1,hcz99_2,hcz99_3⟩:=bc4_ BK181.out;obtain ⟨hfz99_0,hfz99_1,hfz99_2,hfz99_3⟩:=bf4_ BK181.out;have hnb100:=NB169_0.out;have hnc100:=NB0_169.out;obtain ⟨hcz101_0,hcz101_1,hcz101_2,hcz101_3⟩:=bc4_ BK169.out;obtain ⟨hfz101_0,hfz101_1,hfz101_2,hfz101_3⟩:=bf4_ BK169.out;obtain ⟨Ao102,co102,eo102⟩:=Kd.N_slice HO_182003.out;subst eo102))
         refine bodyPost_ret (results_cell_row rfl _ _ gb169 26 #[.string x182000_1, .string x182001_1, .bool x182002_1, .slice Ao102 x182003_1.length co102] (0,0) _ rfl (by (with_reducible repeat (first|refine blk_drewN ?_ _|refine blk_drew ?_|refine blk_alloc ?_ _));refine blk_put (cs:= #[.string x182000_1, .string x182001_1, .bool x182002_1, .slice none 0 0]) ?_ 3 _ rfl;(with_reducible repeat (first|refine blk_drewN ?_ _|refine blk_drew ?_|refine blk_alloc ?_ _));refine blk_put (cs:= #[.string x182000_1, .string x182001_1, .bool false, .slice none 0 0]) ?_ 2 _ rfl;(with_reducible repeat (first|refine blk_drewN ?_ _|refine blk_drew ?_|refine blk_alloc ?_ _));refine blk_put (cs:= #[.string x182000_1, .string (⟨#[]⟩:ByteArray), .bool false, .slice none 0 0]) ?_ 1 _ rfl;(with_reducible repeat (first|refine blk_drewN ?_ _|refine blk_drew ?_|refine blk_alloc ?_ _));refine blk_put (cs:= #[.string (⟨#[]⟩:ByteArray), .string (⟨#[]⟩:ByteArray), .bool false, .slice none 0 0]) ?_ 0 _ rfl;(with_reducible repeat (first|refine blk_drewN ?_ _|refine blk_drew ?_|refine blk_alloc ?_ _));exact BK169.out) Try.underlying26 rfl (by kernel_rfl)) rfl ?_
         exact ⟨_,by first|rfl|(simp [errW_none,errW_some] <;> rfl)|(simp [*,errW_none,errW_some] <;> rfl),by (with_reducible repeat (first|apply Kd.N_alloc|apply Kd.N_drewN|apply Kd.N_drew));exact Kd.N_mono (Kd.N_far (p:=⟨gb169,3,none⟩) (Kd.N_far (p:=⟨gb169,2,none⟩) (Kd.N_far (p:=⟨gb169,1,none⟩) (Kd.N_far (p:=⟨gb169,0,none⟩) (Kd.N_mono HO_182003.out (fun k_ hk=>(⟨hk,hk.2.1⟩:_∧k_≠gb169))) (fun _ hk=>hk.2) (.string x182000_1)) (fun _ hk=>hk.2) (.string x182001_1)) (fun _ hk=>hk.2) (.bool x182002_1)) (fun _ hk=>hk.2) (.slice Ao102 x182003_1.length co102)) (fun _ hk=>hk.1.1),by repeat (first|(with_reducible first|exact HI0.out|apply IsS104.alloc|apply IsS104.drewN|apply IsS104.drew|apply IsS104.set_1|apply IsS104.set_2|refine IsS104.far ?_ NB0_169.out _|refine IsS104.far ?_ NB0_181.out _)|exact HI0.out),by repeat (first|(with_reducible first|exact HB.out|apply below_alloc|apply pw_below_drewN|apply below_drew1|refine below_set ?_ (IsS104.ge HI0.out)|refine below_set ?_ GE169.out|refine below_set ?_ GE181.out)|exact HB.out),by repeat (first|(with_reducible first|exact HK.out|apply KeepBut.set_|apply keep_drewN|apply keep_drew|apply keep_alloc|refine keep_far ?_ GW169.out _|refine keep_far ?_ GW181.out _)|exact HK.out)⟩
     ·rw [if_neg c69] at H
      have c69b0:(t182 == 4)=false:=beq_eq_false_iff_ne.mpr c69
      have c69b1:(t182 != 4)=true:=bne_iff_ne.mpr c69
      by_cases c103:t182=5
      ·rw [if_pos c103] at H
       have c103b0:(t182 == 5)=true:=beq_iff_eq.mpr c103
       have c103b1:(t182 != 5)=false:=bne_eq_false_iff_eq.mpr c103
       clear c103
       obtain ⟨y207,hy207⟩: ∃ y_:List (S26),y_=(([]:List (S26))):=⟨_,rfl⟩
       replace H:(spec_l01DrawAny.l1 k y207 1 s0_0 t183 t184)=some (r1,r2,r3,r4,r5,r6):=by first|(rw [hy207];with_reducible exact H)|(have H2_:=(Option.bind_some _ _).symm.trans H;rw [hy207];with_reducible exact H2_)|(have H2_:=(Option.bind_some _ _).symm.trans H;with_reducible exact H2_)|with_reducible exact H|(rw [hy207];exact H)|exact H
       have Ny207:=A0_ hy207
       clear hy207
       have H':=A0_ H
       clear H
       go_enter Try.func39,Try.ntmps39
       go_wp2_with (first|((with_reducible refine gate_dst (N:=2) rfl ?_);refine box_event ?hg (N:=2) ?hd (cs:= #[.string (⟨#[]⟩:ByteArray), .string (⟨#[]⟩:ByteArray), .bool false, .slice none 0 0]) (t:=26) ?hr ?_;(case hd=>rfl);(case hg=>rfl);(case hr=>first|(go_simp;done)|(go_simp;rfl));intro gb169 hg w104 hbox hb;replace HB:=A0_ (below_step HB.out hb);have BK169:=A0_ (hbox);have GW169:=A0_ ((by rw [hg];exact (keep_size (w:=w) (row:=none) HK.out):w.heap.size≤gb169));have GE169:=A0_ ((Nat.le_trans HW0.out (by rw [hg];exact (keep_size (w:=w) (row:=none) HK.out):w.heap.size≤gb169):w0.heap.size≤gb169));replace HK:=A0_ (KeepBut.trans HK.out (KeepBut.of_below hb g none) (.inl rfl));have NB0_169:=A0_ ((by rw [hg];exact Nat.ne_of_lt (IsS104.lt (show IsS104 w0 _ g s0_0 s0_1 s0_2 from by repeat (first|(with_reducible first|exact HI0.out|apply IsS104.alloc|apply IsS104.drewN|apply IsS104.drew|apply IsS104.set_1|apply IsS104.set_2)|exact HI0.out))):g≠gb169));have NB169_0:=A0_ ((by rw [hg];exact Nat.ne_of_gt (IsS104.lt (show IsS104 w0 _ g s0_0 s0_1 s0_2 from by repeat (first|(with_reducible first|exact HI0.out|apply IsS104.alloc|apply IsS104.drewN|apply IsS104.drew|apply IsS104.set_1|apply IsS104.set_2)|exact HI0.out))):gb169≠g));replace HI0:=A0_ (IsS104.below HI0.out hb);clear hb hbox hg)|((with_reducible refine gate_callee (f:=84) rfl ?_);refine goesL_ (some 11) rfl rfl Try.func84 (by kernel_rfl) rfl #[.pointer (some ⟨g,0,none⟩), .int .i64 5] rfl (by (try simp only [List.map_toArray,List.map_cons,List.map_nil]);first|done|rfl|(simp only [List.length_drop,List.length_take];rfl)) ?_;(with_reducible refine (spec_l01Cur_size.calls g s0_0 s0_1 s0_2 5 t170 t171 t172 w0 _ ?side1 ?side2 A2.out).mono ?_);(case side1=>repeat (first|(with_reducible first|exact HI0.out|apply IsS104.alloc|apply IsS104.drewN|apply IsS104.drew|apply IsS104.set_1|apply IsS104.set_2|refine IsS104.far ?_ NB0_169.out _)|exact HI0.out));(case side2=>repeat (first|(with_reducible first|exact HB.out|apply below_alloc|apply pw_below_drewN|apply below_drew1|refine below_set ?_ (IsS104.ge HI0.out)|refine below_set ?_ GE169.out)|exact HB.out));rintro e w105 ⟨rfl,hi,hb,hk⟩;refine ⟨_,rfl, ?_⟩;replace BK169:=A0_ (KeepBut.blk hk BK169.out NB169_0.out (by simp));replace HK:=A0_ (KeepBut.trans HK.out hk (.inl rfl));replace HB:=A0_ (hb);replace HI0:=A0_ (hi);(try clear hb);(try clear hb2);(try clear hk);(try clear hi))|((with_reducible refine gate_callee (f:=37) rfl ?_);refine goesL_ (some 13) rfl rfl Try.func37 (by kernel_rfl) rfl #[.pointer (some ⟨g,0,none⟩), .int .i64 (wrap64 (1 + t170))] rfl (by (try simp only [List.map_toArray,List.map_cons,List.map_nil]);first|done|rfl|(simp only [List.length_drop,List.length_take];rfl)) ?_;(with_reducible refine (spec_l01DrawTree.calls k g s0_0 t171 t172 (wrap64 (1 + t170)) t173 t174 t175 t176 t179 t180 w0 _ ?side1 ?side2 A3.out).mono ?_);(case side1=>repeat (first|(with_reducible first|exact HI0.out|apply IsS104.alloc|apply IsS104.drewN|apply IsS104.drew|apply IsS104.set_1|apply IsS104.set_2|refine IsS104.far ?_ NB0_169.out _)|exact HI0.out));(case side2=>repeat (first|(with_reducible first|exact HB.out|apply below_alloc|apply pw_below_drewN|apply below_drew1|refine below_set ?_ (IsS104.ge HI0.out)|refine below_set ?_ GE169.out)|exact HB.out));rintro e w106 ⟨v177,rfl,ho0,hi,hb,hk⟩;refine ⟨_,rfl, ?_⟩;have HO178:=A0_ (Kd.N_lower (Kd.N_mono (ok':=fun k_=>(w.heap.size≤k_)∧k_≠gb169∧k_≠g) (Kd.R_N (Kd.R_bound ho0)) (fun k_ hk_=>⟨(Nat.le_trans (keep_size (w:=w) (row:=none) HK.out) hk_.2.1),(Kd.freshB BK169.out k_ hk_.2.1),(IsS104.fresh HI0.out k_ hk_.2.1)⟩)) (keep_size (w:=w) (row:=none) HK.out));replace BK169:=A0_ (KeepBut.blk hk BK169.out NB169_0.out (by simp));replace HK:=A0_ (KeepBut.trans HK.out hk (.inl rfl));replace HB:=A0_ (hb);replace HI0:=A0_ (hi);(try clear hb);(try clear hb2);(try clear hk);(try clear hi);(try clear ho0))|((with_reducible refine gate_dst (N:=3) rfl ?_);refine box_event ?hg (N:=3) ?hd (cs:= #[.string (⟨#[]⟩:ByteArray), .string (⟨#[]⟩:ByteArray), .bool false, .slice none 0 0]) (t:=26) ?hr ?_;(case hd=>rfl);(case hg=>rfl);(case hr=>first|(go_simp;done)|(go_simp;rfl));intro gb181 hg w107 hbox hb;replace HO178:=A0_ (Kd.N_below (Kd.N_elderB HO178.out gb181 (Nat.le_of_eq hg.symm)) hb);replace HB:=A0_ (below_step HB.out hb);have BK181:=A0_ (hbox);have GW181:=A0_ ((by rw [hg];exact (keep_size (w:=w) (row:=none) HK.out):w.heap.size≤gb181));have GE181:=A0_ ((Nat.le_trans HW0.out (by rw [hg];exact (keep_size (w:=w) (row:=none) HK.out):w.heap.size≤gb181):w0.heap.size≤gb181));replace HK:=A0_ (KeepBut.trans HK.out (KeepBut.of_below hb g none) (.inl rfl));have NB169_181:=A0_ ((by rw [hg];exact Nat.ne_of_lt (blk_lt BK169.out):gb169≠gb181));have NB181_169:=A0_ ((by rw [hg];exact Nat.ne_of_gt (blk_lt BK169.out):gb181≠gb169));replace BK169:=A0_ (blk_below BK169.out hb);have NB0_181:=A0_ ((by rw [hg];exact Nat.ne_of_lt (IsS104.lt (show IsS104 w0 _ g s0_0 t179 t180 from by repeat (first|(with_reducible first|exact HI0.out|apply IsS104.alloc|apply IsS104.drewN|apply IsS104.drew|apply IsS104.set_1|apply IsS104.set_2|refine IsS104.far ?_ NB0_169.out _)|exact HI0.out))):g≠gb181));have NB181_0:=A0_ ((by rw [hg];exact Nat.ne_of_gt (IsS104.lt (show IsS104 w0 _ g s0_0 t179 t180 from by repeat (first|(with_reducible first|exact HI0.out|apply IsS104.alloc|apply IsS104.drewN|apply IsS104.drew|apply IsS104.set_1|apply IsS104.set_2|refine IsS104.far ?_ NB0_169.out _)|exact HI0.out))):gb181≠g));replace HI0:=A0_ (IsS104.below HI0.out hb);clear hb hbox hg;have hnb108:=NB181_169.out;have hnc108:=NB169_181.out;have hnb109:=NB181_0.out;have hnc109:=NB0_181.out;obtain ⟨hcz110_0,hcz110_1,hcz110_2,hcz110_3⟩:=bc4_ BK181.out;obtain ⟨hfz110_0,hfz110_1,hfz110_2,hfz110_3⟩:=bf4_ BK181.out;obtain ⟨Ao111,co111,eo111⟩:=Kd.N_slice HO178.out;subst eo111)|((with_reducible refine gate_callee (f:=38) rfl ?_);refine goesL_ (some 15) rfl rfl Try.func38 (by kernel_rfl) rfl #[.pointer (some ⟨g,0,none⟩), .int .i64 24] rfl (by (try simp only [List.map_toArray,List.map_cons,List.map_nil]);first|done|rfl|(simp only [List.length_drop,List.length_take];rfl)) ?_;(with_reducible refine (spec_l01Cur_pick.calls g s0_0 t179 t180 24 t182 t183 t184 w0 _ ?side1 ?side2 A4.out).mono ?_);(case side1=>repeat (first|(with_reducible first|exact HI0.out|apply IsS104.alloc|apply IsS104.drewN|apply IsS104.drew|apply IsS104.set_1|apply IsS104.set_2|refine IsS104.far ?_ NB0_169.out _|refine IsS104.far ?_ NB0_181.out _)|exact HI0.out));(case side2=>repeat (first|(with_reducible first|exact HB.out|apply below_alloc|apply pw_below_drewN|apply below_drew1|refine below_set ?_ (IsS104.ge HI0.out)|refine below_set ?_ GE169.out|refine below_set ?_ GE181.out)|exact HB.out));rintro e w112 ⟨rfl,hi,hb,hk⟩;refine ⟨_,rfl, ?_⟩;replace BK169:=A0_ (KeepBut.blk hk (g':=gb169) (o:= .cells #[.string (⟨#[]⟩:ByteArray), .string (⟨#[]⟩:ByteArray), .bool false, .slice none 0 0] 26 (0,0)) (by (with_reducible repeat (first|refine blk_drewN ?_ _|refine blk_drew ?_|refine blk_alloc ?_ _));refine blk_far ?_ NB169_181.out _;(with_reducible repeat (first|refine blk_drewN ?_ _|refine blk_drew ?_|refine blk_alloc ?_ _));refine blk_far ?_ NB169_181.out _;(with_reducible repeat (first|refine blk_drewN ?_ _|refine blk_drew ?_|refine blk_alloc ?_ _));refine blk_far ?_ NB169_181.out _;(with_reducible repeat (first|refine blk_drewN ?_ _|refine blk_drew ?_|refine blk_alloc ?_ _));refine blk_far ?_ NB169_181.out _;(with_reducible repeat (first|refine blk_drewN ?_ _|refine blk_drew ?_|refine blk_alloc ?_ _));exact BK169.out) NB169_0.out (by simp));replace HO178:=A0_ (Kd.N_mono (Kd.N_keep (Kd.N_mono (ok:=fun k_=>((((w.heap.size≤k_))∧(k_≠gb169∧k_≠g))∧k_≠gb181)) (Kd.N_mono (Kd.N_far (p:=⟨gb181,3,none⟩) (Kd.N_far (p:=⟨gb181,2,none⟩) (Kd.N_far (p:=⟨gb181,1,none⟩) (Kd.N_far (p:=⟨gb181,0,none⟩) (Kd.N_mono HO178.out (fun k_ hk=>(⟨hk,hk.2⟩:_∧k_≠gb181))) (fun _ hk=>hk.2) (.string t173)) (fun _ hk=>hk.2) (.string t174)) (fun _ hk=>hk.2) (.bool t175)) (fun _ hk=>hk.2) (.slice Ao111 t176.length co111)) (fun _ h_=>h_.1)) (fun k_ hk_=>(⟨hk_,(by first|exact hk_.1.2.2|(have hk0_:=hk_;revert hk0_;(try simp only [and_imp]);intros;(repeat' apply And.intro) <;> assumption))⟩:_∧k_≠g))) hk (fun _ h=>h.2)) (fun _ h=>h.1));replace BK181:=A0_ (KeepBut.blk hk (g':=gb181) (o:= .cells #[.string t173, .string t174, .bool t175, .slice Ao111 t176.length co111] 26 (0,0)) (by (with_reducible repeat (first|refine blk_drewN ?_ _|refine blk_drew ?_|refine blk_alloc ?_ _));refine blk_put (cs:= #[.string t173, .string t174, .bool t175, .slice none 0 0]) ?_ 3 _ rfl;(with_reducible repeat (first|refine blk_drewN ?_ _|refine blk_drew ?_|refine blk_alloc ?_ _));refine blk_put (cs:= #[.string t173, .string t174, .bool false, .slice none 0 0]) ?_ 2 _ rfl;(with_reducible repeat (first|refine blk_drewN ?_ _|refine blk_drew ?_|refine blk_alloc ?_ _));refine blk_put (cs:= #[.string t173, .string (⟨#[]⟩:ByteArray), .bool false, .slice none 0 0]) ?_ 1 _ rfl;(with_reducible repeat (first|refine blk_drewN ?_ _|refine blk_drew ?_|refine blk_alloc ?_ _));refine blk_put (cs:= #[.string (⟨#[]⟩:ByteArray), .string (⟨#[]⟩:ByteArray), .bool false, .slice none 0 0]) ?_ 0 _ rfl;(with_reducible repeat (first|refine blk_drewN ?_ _|refine blk_drew ?_|refine blk_alloc ?_ _));exact BK181.out) NB181_0.out (by simp));replace HK:=A0_ (KeepBut.trans (by repeat (first|(with_reducible first|exact HK.out|apply KeepBut.set_|apply keep_drewN|apply keep_drew|apply keep_alloc|refine keep_far ?_ GW169.out _|refine keep_far ?_ GW181.out _)|exact HK.out)) hk (.inl rfl));replace HB:=A0_ (hb);replace HI0:=A0_ (hi);(try clear hb);(try clear hb2);(try clear hk);(try clear hi))|((with_reducible refine gate_dst (N:=59) rfl ?_);refine Kd.N_lit k26 _ 26 ?hg (N':=59) ?hd (xs:=([]:List (S26))) (inner:= []) (ok:=(fun k_=>(w.heap.size≤k_)∧some k_≠(.slice Ao111 t176.length co111:Value).ownBlock∧k_≠gb169∧k_≠gb181∧k_≠g)) (okp:=(fun k_=>(w.heap.size≤k_)∧some k_≠(.slice Ao111 t176.length co111:Value).ownBlock∧k_≠gb169∧k_≠gb181∧k_≠g)) ?hr ?hp (fun _ hk=>hk) ((show ∀ k_,w112.heap.size≤k_→(fun k_=>(w.heap.size≤k_)∧some k_≠(.slice Ao111 t176.length co111:Value).ownBlock∧k_≠gb169∧k_≠gb181∧k_≠g) k_ from fun k_ hk=>⟨(Nat.le_trans (keep_size (w:=w) (g:=g) (row:=none) HK.out) hk),Kd.fresh' (Kd.N_lt HO178.out) k_ hk,Kd.freshB (g:=gb169) (o:= .cells #[.string (⟨#[]⟩:ByteArray), .string (⟨#[]⟩:ByteArray), .bool false, .slice none 0 0] 26 (0,0)) BK169.out k_ hk,Kd.freshB (g:=gb181) (o:= .cells #[.string t173, .string t174, .bool t175, .slice Ao111 t176.length co111] 26 (0,0)) BK181.out k_ hk,IsS104.fresh HI0.out k_ hk⟩) _ (Nat.le_refl _)) (Below.refl _ _) (Nat.le_refl _) (by simp) ?_;(case hd=>rfl);(case hg=>rfl);(case hr=>first|(go_simp;done)|(go_simp;rfl));(case hp=>exact (Reps.none _ _));intro v208 w113 ho114 hb hg_ hnew_;clear hg_ hnew_;(first|rw [← Ny207.out] at ho114|(simp only [Int.reduceToNat] at ho114;rw [← Ny207.out] at ho114));replace HO178:=A0_ (Kd.N_elder' HO178.out (Kd.N_base ho114) hb);have HO209:=A0_ (Kd.N_lower ho114 (keep_size (w:=w) (row:=none) HK.out));replace HI0:=A0_ (IsS104.below HI0.out hb);replace BK169:=A0_ (blk_below BK169.out hb);replace BK181:=A0_ (blk_below BK181.out hb);replace HK:=A0_ (KeepBut.trans HK.out (KeepBut.of_below hb g none) (.inl rfl));replace HB:=A0_ (below_step HB.out hb);clear hb ho114))
       go_loopg [5,6] k (fun kq v5 v6 w'=> ∃ (x5_1:List (S26)) (x6_1:Int) (x1001_1:Int) (x1002_1:Int),v6= .int .i64 x6_1∧Aside0 (spec_l01DrawAny.l1 kq x5_1 x6_1 s0_0 x1001_1 x1002_1=some (r1,r2,r3,r4,r5,r6))∧Aside0 (kq≤k)∧Aside0 (Kd.N k26 26 w' w.heap.size (fun k_=>(w.heap.size≤k_)∧some k_≠((.slice Ao111 t176.length co111):Value).ownBlock∧k_≠gb169∧k_≠gb181∧k_≠g) v5 x5_1)∧Aside0 (Kd.N k26 26 w' w.heap.size (fun k_=>(w.heap.size≤k_)∧some k_≠(v5:Value).ownBlock∧k_≠gb169∧k_≠gb181∧k_≠g) (.slice Ao111 t176.length co111) t176)∧Aside0 (w'.heap[gb169]?= some (.cells #[.string (⟨#[]⟩:ByteArray), .string (⟨#[]⟩:ByteArray), .bool false,(.slice none 0 0)] 26 (0,0)))∧Aside0 (w'.heap[gb181]?= some (.cells #[.string t173, .string t174, .bool t175,(.slice Ao111 t176.length co111)] 26 (0,0)))∧Aside0 (IsS104 w0 w' g s0_0 x1001_1 x1002_1)∧Aside0 (KeepBut w w' g none)∧Aside0 (Below w0.heap.size w0 w'))
       case atStart=>exact ⟨(y207),(1),(t183),(t184),(by first|rfl|(simp;done)|(simp [*];done)|(simp [bne];done)|(simp [bne, *];done)),H',⟨Nat.le_refl _⟩,⟨by (with_reducible repeat (first|apply Kd.N_alloc|apply Kd.N_drewN|apply Kd.N_drew));exact HO209.out⟩,⟨by (with_reducible repeat (first|apply Kd.N_alloc|apply Kd.N_drewN|apply Kd.N_drew));exact Kd.N_mono HO178.out (fun _ hk=>⟨hk.1.1.1,⟨hk.2,⟨hk.1.1.2.1,⟨hk.1.2,hk.1.1.2.2⟩⟩⟩⟩)⟩,⟨by (with_reducible repeat (first|refine blk_drewN ?_ _|refine blk_drew ?_|refine blk_alloc ?_ _));exact BK169.out⟩,⟨by (with_reducible repeat (first|refine blk_drewN ?_ _|refine blk_drew ?_|refine blk_alloc ?_ _));exact BK181.out⟩,⟨by repeat (first|(with_reducible first|exact HI0.out|apply IsS104.alloc|apply IsS104.drewN|apply IsS104.drew|apply IsS104.set_1|apply IsS104.set_2|refine IsS104.far ?_ NB0_169.out _|refine IsS104.far ?_ NB0_181.out _)|exact HI0.out)⟩,⟨by repeat (first|(with_reducible first|exact HK.out|apply KeepBut.set_|apply keep_drewN|apply keep_drew|apply keep_alloc|refine keep_far ?_ GW169.out _|refine keep_far ?_ GW181.out _)|exact HK.out)⟩,⟨by repeat (first|(with_reducible first|exact HB.out|apply below_alloc|apply pw_below_drewN|apply below_drew1|refine below_set ?_ (IsS104.ge HI0.out)|refine below_set ?_ GE169.out|refine below_set ?_ GE181.out)|exact HB.out)⟩⟩
       case round=>
        clear H'
        try clear c1
        try clear p1
        try clear q1
        try clear hx1
        try clear c2
        try clear p2
        try clear c3
        try clear c4
        try clear c5
        try clear c5b0
        try clear c5b1
        try clear c6
        try clear p6
        try clear c7
        try clear c7b0
        try clear c8
        try clear c8b0
        try clear c9
        try clear c10
        try clear c13
        try clear c14
        try clear p19
        try clear q19
        try clear hx19
        try clear c23
        try clear c25
        try clear c25b0
        try clear c25b1
        try clear c30
        try clear c31
        try clear c36
        try clear c37
        try clear c38
        try clear c38b0
        try clear c38b1
        try clear c39
        try clear c39b0
        try clear c39b1
        try clear c39b2
        try clear c44
        try clear c45
        try clear c50
        try clear c52
        try clear c52b0
        try clear c52b1
        try clear c53
        try clear c58
        try clear c59
        try clear p64
        try clear c67
        try clear c69
        try clear c69b0
        try clear c69b1
        try clear c75
        try clear c76
        try clear c79
        try clear c82
        try clear c84
        try clear c84b0
        try clear c87
        try clear c88
        try clear c97
        try clear c98
        try clear c100
        try clear c103
        try clear c103b0
        try clear c103b1
        try clear c108
        try clear c109
        try clear hcz101_0
        try clear hcz101_1
        try clear hcz101_2
        try clear hcz101_3
        try clear hcz110_0
        try clear hcz110_1
        try clear hcz110_2
        try clear hcz110_3
        try clear hcz15_0
        try clear hcz15_1
        try clear hcz15_2
        try clear hcz15_3
        try clear hcz22_0
        try clear hcz22_1
        try clear hcz22_2
        try clear hcz22_3
        try clear hcz24_0
        try clear hcz24_1
        try clear hcz24_2
        try clear hcz24_3
        try clear hcz32_0
        try clear hcz32_1
        try clear hcz32_2
        try clear hcz32_3
        try clear hcz35_0
        try clear hcz35_1
        try clear hcz35_2
        try clear hcz35_3
        try clear hcz37_0
        try clear hcz37_1
        try clear hcz37_2
        try clear hcz37_3
        try clear hcz46_0
        try clear hcz46_1
        try clear hcz46_2
        try clear hcz46_3
        try clear hcz49_0
        try clear hcz49_1
        try clear hcz49_2
        try clear hcz49_3
        try clear hcz51_0
        try clear hcz51_1
        try clear hcz51_2
        try clear hcz51_3
        try clear hcz60_0
        try clear hcz60_1
        try clear hcz60_2
        try clear hcz60_3
        try clear hcz63_0
        try clear hcz63_1
        try clear hcz63_2
        try clear hcz63_3
        try clear hcz66_0
        try clear hcz66_1
        try clear hcz66_2
        try clear hcz66_3
        try clear hcz68_0
        try clear hcz68_1
        try clear hcz68_2
        try clear hcz68_3
        try clear hcz77_0
        try clear hcz77_1
        try clear hcz77_2
        try clear hcz77_3
        try clear hcz81_0
        try clear hcz81_1
        try clear hcz81_2
        try clear hcz81_3
        try clear hcz89_0
        try clear hcz89_1
        try clear hcz89_2
        try clear hcz89_3
        try clear hcz95_0
        try clear hcz95_1
        try clear hcz95_2
        try clear hcz95_3
        try clear hcz99_0
        try clear hcz99_1
        try clear hcz99_2
        try clear hcz99_3
        try clear hfz101_0
        try clear hfz101_1
        try clear hfz101_2
        try clear hfz101_3
        try clear hfz110_0
        try clear hfz110_1
        try clear hfz110_2
        try clear hfz110_3
        try clear hfz15_0
        try clear hfz15_1
        try clear hfz15_2
        try clear hfz15_3
        try clear hfz22_0
        try clear hfz22_1
        try clear hfz22_2
        try clear hfz22_3
        try clear hfz24_0
        try clear hfz24_1
        try clear hfz24_2
        try clear hfz24_3
        try clear hfz32_0
        try clear hfz32_1
        try clear hfz32_2
        try clear hfz32_3
        try clear hfz35_0
        try clear hfz35_1
        try clear hfz35_2
        try clear hfz35_3
        try clear hfz37_0
        try clear hfz37_1
        try clear hfz37_2
        try clear hfz37_3
        try clear hfz46_0
        try clear hfz46_1
        try clear hfz46_2
        try clear hfz46_3
        try clear hfz49_0
        try clear hfz49_1
        try clear hfz49_2
        try clear hfz49_3
        try clear hfz51_0
        try clear hfz51_1
        try clear hfz51_2
        try clear hfz51_3
        try clear hfz60_0
        try clear hfz60_1
        try clear hfz60_2
        try clear hfz60_3
        try clear hfz63_0
        try clear hfz63_1
        try clear hfz63_2
        try clear hfz63_3
        try clear hfz66_0
        try clear hfz66_1
        try clear hfz66_2
        try clear hfz66_3
        try clear hfz68_0
        try clear hfz68_1
        try clear hfz68_2
        try clear hfz68_3
        try clear hfz77_0
        try clear hfz77_1
        try clear hfz77_2
        try clear hfz77_3
        try clear hfz81_0
        try clear hfz81_1
        try clear hfz81_2
        try clear hfz81_3
        try clear hfz89_0
        try clear hfz89_1
        try clear hfz89_2
        try clear hfz89_3
        try clear hfz95_0
        try clear hfz95_1
        try clear hfz95_2
        try clear hfz95_3
        try clear hfz99_0
        try clear hfz99_1
        try clear hfz99_2
        try clear hfz99_3
        try clear hx191_0
        try clear p1
        try clear p19
        try clear p191
        try clear p2
        try clear p6
        try clear p64
        try clear q1
        try clear q19
        try clear q191
        obtain ⟨x5_1,x6_1,x1001_1,x1002_1,rfl,HA,HK1,HO_5,HO_182003,BK169,BK181,HI0,HK,HB⟩:=hrel
        cases gk with
        |zero=>exact absurd HA.out (by simp [spec_l01DrawAny.l1])
        |succ k1=>
         have H:=HA.out
         clear HA
         simp only [spec_l01DrawAny.l1] at H
         replace H:=Option.bind_eq_some_iff.mp H
         obtain ⟨⟨t210,t211,t212⟩,A1150,H⟩:=H
         replace H:(if x6_1 < (wrap64 (1000 + t210)) then ((spec_l01Leaf.f (⟨#[107]⟩:ByteArray) (⟨#[]⟩:ByteArray)).bind fun bt213=>(if x5_1.length < 2199023255552 then (spec_l01DrawAny.l1 k1 (x5_1 ++ [(⟨bt213.1,bt213.2.1,bt213.2.2.1,bt213.2.2.2⟩:S26)]) (wrap64 (x6_1 + 1)) s0_0 t211 t212) else (none))) else ((spec_l01Node.f (⟨#[110]⟩:ByteArray) x5_1).bind fun _=>(some ((⟨#[110]⟩:ByteArray),(⟨#[]⟩:ByteArray),false,x5_1,t211,t212))))=some (r1,r2,r3,r4,r5,r6):=H
         have A115:=A0_ A1150
         clear A1150
         by_cases c116:x6_1 < (wrap64 (1000 + t210))
         ·rw [if_pos c116] at H
          have c116b0:decide (x6_1 < (wrap64 (1000 + t210)))=true:=decide_eq_true c116
          clear c116
          replace H:=Option.bind_eq_some_iff.mp H
          obtain ⟨⟨t213,t214,t215,t216⟩,A1170,H⟩:=H
          replace H:(if x5_1.length < 2199023255552 then (spec_l01DrawAny.l1 k1 (x5_1 ++ [(⟨t213,t214,t215,t216⟩:S26)]) (wrap64 (x6_1 + 1)) s0_0 t211 t212) else (none))=some (r1,r2,r3,r4,r5,r6):=H
          have A117:=A0_ A1170
          clear A1170
          by_cases c118:x5_1.length < 2199023255552
          ·rw [if_pos c118] at H
           have LMc118:=A0_ c118
           clear c118
           obtain ⟨y219,hy219⟩: ∃ y_:List (S26),y_=(x5_1 ++ [(⟨t213,t214,t215,t216⟩:S26)]):=⟨_,rfl⟩
           replace H:(spec_l01DrawAny.l1 k1 y219 (wrap64 (x6_1 + 1)) s0_0 t211 t212)=some (r1,r2,r3,r4,r5,r6):=by first|(rw [hy219];with_reducible exact H)|(have H2_:=(Option.bind_some _ _).symm.trans H;rw [hy219];with_reducible exact H2_)|(have H2_:=(Option.bind_some _ _).symm.trans H;with_reducible exact H2_)|with_reducible exact H|(rw [hy219];exact H)|exact H
           have Ny219:=A0_ hy219
           clear hy219
           have H':=A0_ H
           clear H
           go_wp2_with (first|((with_reducible refine gate_callee (f:=38) rfl ?_);refine goesL_ (some 62) rfl rfl Try.func38 (by kernel_rfl) rfl #[.pointer (some ⟨g,0,none⟩), .int .i64 2] rfl (by (try simp only [List.map_toArray,List.map_cons,List.map_nil]);first|done|rfl|(simp only [List.length_drop,List.length_take];rfl)) ?_;(with_reducible refine (spec_l01Cur_pick.calls g s0_0 x1001_1 x1002_1 2 t210 t211 t212 w0 _ ?side1 ?side2 A115.out).mono ?_);(case side1=>repeat (first|(with_reducible first|exact HI0.out|apply IsS104.alloc|apply IsS104.drewN|apply IsS104.drew|apply IsS104.set_1|apply IsS104.set_2|refine IsS104.far ?_ NB0_169.out _|refine IsS104.far ?_ NB0_181.out _)|exact HI0.out));(case side2=>repeat (first|(with_reducible first|exact HB.out|apply below_alloc|apply pw_below_drewN|apply below_drew1|refine below_set ?_ (IsS104.ge HI0.out)|refine below_set ?_ GE169.out|refine below_set ?_ GE181.out)|exact HB.out));rintro e w119 ⟨rfl,hi,hb,hk⟩;refine ⟨_,rfl, ?_⟩;replace HO_5:=A0_ (Kd.N_mono (Kd.N_keep (Kd.N_mono (ok:=fun k_=>(((w.heap.size≤k_))∧(some k_≠(.slice Ao111 t176.length co111:Value).ownBlock∧(k_≠gb169∧(k_≠gb181∧k_≠g))))) HO_5.out (fun k_ hk_=>(⟨hk_,(by first|exact hk_.2.2.2.2|(have hk0_:=hk_;revert hk0_;(try simp only [and_imp]);intros;(repeat' apply And.intro) <;> assumption))⟩:_∧k_≠g))) hk (fun _ h=>h.2)) (fun _ h=>h.1));replace HO_182003:=A0_ (Kd.N_mono (Kd.N_keep (Kd.N_mono (ok:=fun k_=>(((w.heap.size≤k_))∧(some k_≠(u5:Value).ownBlock∧(k_≠gb169∧(k_≠gb181∧k_≠g))))) HO_182003.out (fun k_ hk_=>(⟨hk_,(by first|exact hk_.2.2.2.2|(have hk0_:=hk_;revert hk0_;(try simp only [and_imp]);intros;(repeat' apply And.intro) <;> assumption))⟩:_∧k_≠g))) hk (fun _ h=>h.2)) (fun _ h=>h.1));replace BK169:=A0_ (KeepBut.blk hk BK169.out NB169_0.out (by simp));replace BK181:=A0_ (KeepBut.blk hk BK181.out NB181_0.out (by simp));replace HK:=A0_ (KeepBut.trans HK.out hk (.inl rfl));replace HB:=A0_ (hb);replace HI0:=A0_ (hi);(try clear hb);(try clear hb2);(try clear hk);(try clear hi))|((with_reducible refine gate_callee (f:=79) rfl ?_);refine goesL_ (some 68) rfl rfl Try.func79 (by kernel_rfl) rfl #[.string (⟨#[107]⟩:ByteArray), .string (⟨#[]⟩:ByteArray)] rfl (by (try simp only [List.map_toArray,List.map_cons,List.map_nil]);first|done|rfl|(simp only [List.length_drop,List.length_take];rfl)) ?_;(with_reducible refine (spec_l01Leaf.calls (⟨#[107]⟩:ByteArray) (⟨#[]⟩:ByteArray) t213 t214 t215 t216 _ A117.out).mono ?_);rintro e w120 ⟨v217,rfl,ho0,hb⟩;refine ⟨_,rfl, ?_⟩;have HO218:=A0_ (Kd.N_lower (Kd.N_mono (ok':=fun k_=>(w.heap.size≤k_)∧some k_≠(u5:Value).ownBlock∧some k_≠(.slice Ao111 t176.length co111:Value).ownBlock∧k_≠gb169∧k_≠gb181∧k_≠g) (Kd.R_N (Kd.R_bound ho0)) (fun k_ hk_=>⟨(Nat.le_trans (keep_size (w:=w) (row:=none) HK.out) hk_.2.1),(Kd.fresh' (Kd.N_lt HO_5.out) k_ hk_.2.1),(Kd.fresh' (Kd.N_lt HO_182003.out) k_ hk_.2.1),(Kd.freshB BK169.out k_ hk_.2.1),(Kd.freshB BK181.out k_ hk_.2.1),(IsS104.fresh HI0.out k_ hk_.2.1)⟩)) (keep_size (w:=w) (row:=none) HK.out));replace HO_5:=A0_ (Kd.N_elder' HO_5.out (Kd.R_base ho0) hb);replace HO_182003:=A0_ (Kd.N_elder' HO_182003.out (Kd.R_base ho0) hb);replace BK169:=A0_ (blk_below BK169.out hb);replace BK181:=A0_ (blk_below BK181.out hb);replace HI0:=A0_ (IsS104.below HI0.out hb);replace HK:=A0_ (KeepBut.trans HK.out (KeepBut.of_below hb g none) (.inl rfl));replace HB:=A0_ (below_step HB.out hb);(try clear hb);(try clear hb2);(try clear hk);(try clear hi);(try clear ho0);obtain ⟨Ao122,co122,eo122⟩:=Kd.N_slice HO218.out;subst eo122)|((with_reducible refine gate_builtin (b:= .append) (xs:= #[.tmp 67, .tmp 69]) rfl ?_);at_builtin;refine Kd.N_append k26 w.heap.size rfl (.tmp 67) (.tmp 69) 24 26 (.agg #[(.string ⟨#[]⟩),(.string ⟨#[]⟩),(.bool false),(.slice none 0 0)]) 64 rfl Try.underlying24 info26 rfl (by decide) (by omega) u5 x5_1 (⟨t213,t214,t215,t216⟩:S26) [.string t213, .string t214, .bool t215, .slice Ao122 t216.length co122] (fun k_=>(w.heap.size≤k_)∧some k_≠(.slice Ao111 t176.length co111:Value).ownBlock∧k_≠gb169∧k_≠gb181∧k_≠g) (fun k_=>((fun k_=>(w.heap.size≤k_)∧some k_≠(.slice Ao111 t176.length co111:Value).ownBlock∧k_≠gb169∧k_≠gb181∧k_≠g)) k_∧some k_≠(u5:Value).ownBlock) rfl rfl ?aP (fun _ hk=>hk) ?aF ?aO (Below.refl _ _) ?aS ?aL ?_;(case aP=>exact (k26_mkF _ _ (⟨t213,t214,t215,t216⟩:S26) (Kd.N_reads' (Kd.N_mono (ok':=(fun k_=>((fun k_=>(w.heap.size≤k_)∧some k_≠(.slice Ao111 t176.length co111:Value).ownBlock∧k_≠gb169∧k_≠gb181∧k_≠g)) k_∧some k_≠(u5:Value).ownBlock)) (HO218.out) (fun k_ hk=>⟨⟨hk.1,⟨hk.2.2.1,⟨hk.2.2.2.1,⟨hk.2.2.2.2.1,hk.2.2.2.2.2⟩⟩⟩⟩,hk.2.1⟩))).2.1 (Kd.N_F (Kd.N_mono (ok':=(fun k_=>((fun k_=>(w.heap.size≤k_)∧some k_≠(.slice Ao111 t176.length co111:Value).ownBlock∧k_≠gb169∧k_≠gb181∧k_≠g)) k_∧some k_≠(u5:Value).ownBlock)) (HO218.out) (fun k_ hk=>⟨⟨hk.1,⟨hk.2.2.1,⟨hk.2.2.2.1,⟨hk.2.2.2.2.1,hk.2.2.2.2.2⟩⟩⟩⟩,hk.2.1⟩)))));(case aF=>exact (fun k_ hk=>⟨(Nat.le_trans (keep_size (w:=w) (g:=g) (row:=none) HK.out) hk),Kd.fresh' (Kd.N_lt HO_182003.out) k_ hk,Kd.freshB (g:=gb169) (o:= .cells #[.string (⟨#[]⟩:ByteArray), .string (⟨#[]⟩:ByteArray), .bool false, .slice none 0 0] 26 (0,0)) BK169.out k_ hk,Kd.freshB (g:=gb181) (o:= .cells #[.string t173, .string t174, .bool t175, .slice Ao111 t176.length co111] 26 (0,0)) BK181.out k_ hk,IsS104.fresh HI0.out k_ hk⟩));(case aO=>exact (Kd.N_mono HO_5.out (fun _ hk=>⟨hk.1.1,⟨hk.1.2.1,⟨hk.1.2.2.1,⟨hk.1.2.2.2.1,hk.1.2.2.2.2⟩⟩⟩⟩)));(case aS=>exact (keep_size (w:=w) (g:=g) (row:=none) HK.out));(case aL=>have:=LMc118.out;omega);intro v220 w121 ho hb hg hat;rw [← Ny219.out] at ho;have n0_:=A0_ (Kd.N_afterv (ok:=(fun k_=>(w.heap.size≤k_)∧some k_≠(.slice Ao122 t216.length co122:Value).ownBlock∧k_≠gb169∧k_≠gb181∧k_≠g)) (Kd.N_mono HO_182003.out (fun _ hk=>⟨⟨hk.1.1,⟨hk.2,⟨hk.1.2.2.1,⟨hk.1.2.2.2.1,hk.1.2.2.2.2⟩⟩⟩⟩,hk.1.2.1⟩)) hg hat);have n1_:=A0_ (blk_grown BK169.out hg (Kd.N_away HO_5.out (fun _ hk=>hk.1.2.2.1)));have n2_:=A0_ (blk_grown BK181.out hg (Kd.N_away HO_5.out (fun _ hk=>hk.1.2.2.2.1)));have n3_:=A0_ (IsS104.grown HI0.out hg (IsS104.own_neN HI0.out HO_5.out (by decide)));have n4_:=A0_ (below_weaken HB.out HL.out hb);have n5_:=A0_ (KeepBut.trans HK.out (KeepBut.of_grown hg g) (Kd.N_base2 HO_5.out));have n6_:=A0_ (ho);clear HO_182003;clear BK169;clear BK181;clear HI0;clear HB;clear HK;clear HO_5;clear HO218;have HO_182003:=n0_;have BK169:=n1_;have BK181:=n2_;have HI0:=n3_;have HB:=n4_;have HK:=n5_;have HO221:=n6_;clear n0_ n1_ n2_ n3_ n4_ n5_ n6_;clear ho hb hg hat))
           go_roundg k1
           case measure=>have:=HK1.out;omega
           case rel=>exact ⟨(y219),(wrap64 (x6_1 + 1)),(t211),(t212),(by first|rfl|(simp;done)|(simp [*];done)|(simp [bne];done)|(simp [bne, *];done)),H',⟨by have:=HK1.out;omega⟩,⟨by (with_reducible repeat (first|apply Kd.N_alloc|apply Kd.N_drewN|apply Kd.N_drew));exact HO221.out⟩,⟨by (with_reducible repeat (first|apply Kd.N_alloc|apply Kd.N_drewN|apply Kd.N_drew));exact Kd.N_mono HO_182003.out (fun _ hk=>⟨hk.1.1,⟨hk.2,⟨hk.1.2.2.1,⟨hk.1.2.2.2.1,hk.1.2.2.2.2⟩⟩⟩⟩)⟩,⟨by (with_reducible repeat (first|refine blk_drewN ?_ _|refine blk_drew ?_|refine blk_alloc ?_ _));exact BK169.out⟩,⟨by (with_reducible repeat (first|refine blk_drewN ?_ _|refine blk_drew ?_|refine blk_alloc ?_ _));exact BK181.out⟩,⟨by repeat (first|(with_reducible first|exact HI0.out|apply IsS104.alloc|apply IsS104.drewN|apply IsS104.drew|apply IsS104.set_1|apply IsS104.set_2|refine IsS104.far ?_ NB0_169.out _|refine IsS104.far ?_ NB0_181.out _)|exact HI0.out)⟩,⟨by repeat (first|(with_reducible first|exact HK.out|apply KeepBut.set_|apply keep_drewN|apply keep_drew|apply keep_alloc|refine keep_far ?_ GW169.out _|refine keep_far ?_ GW181.out _)|exact HK.out)⟩,⟨by repeat (first|(with_reducible first|exact HB.out|apply below_alloc|apply pw_below_drewN|apply below_drew1|refine below_set ?_ (IsS104.ge HI0.out)|refine below_set ?_ GE169.out|refine below_set ?_ GE181.out)|exact HB.out)⟩⟩
          ·rw [if_neg c118] at H
           exact absurd H (by simp)
         ·rw [if_neg c116] at H
          have c116b0:decide (x6_1 < (wrap64 (1000 + t210)))=false:=decide_eq_false c116
          clear c116
          replace H:=Option.bind_eq_some_iff.mp H
          obtain ⟨_,A1230,H⟩:=H
          replace H:(some ((⟨#[110]⟩:ByteArray),(⟨#[]⟩:ByteArray),false,x5_1,t211,t212))=some (r1,r2,r3,r4,r5,r6):=H
          have A123:=A0_ A1230
          clear A1230
          simp only [Option.some.injEq,Prod.mk.injEq] at H
          obtain ⟨rfl,rfl,rfl,rfl,rfl,rfl⟩:=H
          go_wp2_with (first|((with_reducible refine gate_callee (f:=38) rfl ?_);refine goesL_ (some 62) rfl rfl Try.func38 (by kernel_rfl) rfl #[.pointer (some ⟨g,0,none⟩), .int .i64 2] rfl (by (try simp only [List.map_toArray,List.map_cons,List.map_nil]);first|done|rfl|(simp only [List.length_drop,List.length_take];rfl)) ?_;(with_reducible refine (spec_l01Cur_pick.calls g s0_0 x1001_1 x1002_1 2 t210 t211 t212 w0 _ ?side1 ?side2 A115.out).mono ?_);(case side1=>repeat (first|(with_reducible first|exact HI0.out|apply IsS104.alloc|apply IsS104.drewN|apply IsS104.drew|apply IsS104.set_1|apply IsS104.set_2|refine IsS104.far ?_ NB0_169.out _|refine IsS104.far ?_ NB0_181.out _)|exact HI0.out));(case side2=>repeat (first|(with_reducible first|exact HB.out|apply below_alloc|apply pw_below_drewN|apply below_drew1|refine below_set ?_ (IsS104.ge HI0.out)|refine below_set ?_ GE169.out|refine below_set ?_ GE181.out)|exact HB.out));rintro e w124 ⟨rfl,hi,hb,hk⟩;refine ⟨_,rfl, ?_⟩;replace HO_5:=A0_ (Kd.N_mono (Kd.N_keep (Kd.N_mono (ok:=fun k_=>(((w.heap.size≤k_))∧(some k_≠(.slice Ao111 t176.length co111:Value).ownBlock∧(k_≠gb169∧(k_≠gb181∧k_≠g))))) HO_5.out (fun k_ hk_=>(⟨hk_,(by first|exact hk_.2.2.2.2|(have hk0_:=hk_;revert hk0_;(try simp only [and_imp]);intros;(repeat' apply And.intro) <;> assumption))⟩:_∧k_≠g))) hk (fun _ h=>h.2)) (fun _ h=>h.1));replace HO_182003:=A0_ (Kd.N_mono (Kd.N_keep (Kd.N_mono (ok:=fun k_=>(((w.heap.size≤k_))∧(some k_≠(u5:Value).ownBlock∧(k_≠gb169∧(k_≠gb181∧k_≠g))))) HO_182003.out (fun k_ hk_=>(⟨hk_,(by first|exact hk_.2.2.2.2|(have hk0_:=hk_;revert hk0_;(try simp only [and_imp]);intros;(repeat' apply And.intro) <;> assumption))⟩:_∧k_≠g))) hk (fun _ h=>h.2)) (fun _ h=>h.1));replace BK169:=A0_ (KeepBut.blk hk BK169.out NB169_0.out (by simp));replace BK181:=A0_ (KeepBut.blk hk BK181.out NB181_0.out (by simp));replace HK:=A0_ (KeepBut.trans HK.out hk (.inl rfl));replace HB:=A0_ (hb);replace HI0:=A0_ (hi);(try clear hb);(try clear hb2);(try clear hk);(try clear hi);obtain ⟨Ao125,co125,eo125⟩:=Kd.N_slice HO_5.out;subst eo125)|((with_reducible refine gate_callee (f:=82) rfl ?_);refine goesL_ (some 72) rfl rfl Try.func82 (by kernel_rfl) rfl #[.string (⟨#[110]⟩:ByteArray), .slice Ao125 x5_1.length co125] rfl (by (try simp only [List.map_toArray,List.map_cons,List.map_nil]);first|done|rfl|(simp only [List.length_drop,List.length_take];rfl)) ?_;(with_reducible refine (spec_l01Node.calls (⟨#[110]⟩:ByteArray) _ _ x5_1 _ ?side1 ?side2 A123.out).mono ?_);(case side1=>repeat (first|exact (Kd.N_reads' HO_5.out).2.2|(with_reducible refine Kd.C_alloc ?_ _)|(with_reducible refine Kd.C_drewN ?_ _)|(with_reducible refine Kd.C_drew ?_)));(case side2=>exact (Kd.N_reads' HO_5.out).2.1);rintro e w126 ⟨rfl,hb⟩;refine ⟨_,rfl, ?_⟩;replace HO_5:=A0_ (Kd.N_below HO_5.out hb);replace HO_182003:=A0_ (Kd.N_below HO_182003.out hb);replace BK169:=A0_ (blk_below BK169.out hb);replace BK181:=A0_ (blk_below BK181.out hb);replace HI0:=A0_ (IsS104.below HI0.out hb);replace HK:=A0_ (KeepBut.trans HK.out (KeepBut.of_below hb g none) (.inl rfl));replace HB:=A0_ (below_step HB.out hb);(try clear hb);(try clear hb2);(try clear hk);(try clear hi);have hnb127:=NB181_169.out;have hnc127:=NB169_181.out;have hnb128:=NB181_0.out;have hnc128:=NB0_181.out;obtain ⟨hcz129_0,hcz129_1,hcz129_2,hcz129_3⟩:=bc4_ BK181.out;obtain ⟨hfz129_0,hfz129_1,hfz129_2,hfz129_3⟩:=bf4_ BK181.out;have hnb130:=NB169_0.out;have hnc130:=NB0_169.out;obtain ⟨hcz131_0,hcz131_1,hcz131_2,hcz131_3⟩:=bc4_ BK169.out;obtain ⟨hfz131_0,hfz131_1,hfz131_2,hfz131_3⟩:=bf4_ BK169.out))
          refine bodyPost_ret (results_cell_row rfl _ _ gb169 26 #[.string (⟨#[110]⟩:ByteArray), .string (⟨#[]⟩:ByteArray), .bool false, .slice Ao125 x5_1.length co125] (0,0) _ rfl (by (with_reducible repeat (first|refine blk_drewN ?_ _|refine blk_drew ?_|refine blk_alloc ?_ _));refine blk_put (cs:= #[.string (⟨#[110]⟩:ByteArray), .string (⟨#[]⟩:ByteArray), .bool false, .slice none 0 0]) ?_ 3 _ rfl;(with_reducible repeat (first|refine blk_drewN ?_ _|refine blk_drew ?_|refine blk_alloc ?_ _));refine blk_put (cs:= #[.string (⟨#[110]⟩:ByteArray), .string (⟨#[]⟩:ByteArray), .bool false, .slice none 0 0]) ?_ 2 _ rfl;(with_reducible repeat (first|refine blk_drewN ?_ _|refine blk_drew ?_|refine blk_alloc ?_ _));refine blk_put (cs:= #[.string (⟨#[110]⟩:ByteArray), .string (⟨#[]⟩:ByteArray), .bool false, .slice none 0 0]) ?_ 1 _ rfl;(with_reducible repeat (first|refine blk_drewN ?_ _|refine blk_drew ?_|refine blk_alloc ?_ _));refine blk_put (cs:= #[.string (⟨#[]⟩:ByteArray), .string (⟨#[]⟩:ByteArray), .bool false, .slice none 0 0]) ?_ 0 _ rfl;(with_reducible repeat (first|refine blk_drewN ?_ _|refine blk_drew ?_|refine blk_alloc ?_ _));refine blk_far ?_ NB169_181.out _;(with_reducible repeat (first|refine blk_drewN ?_ _|refine blk_drew ?_|refine blk_alloc ?_ _));refine blk_far ?_ NB169_181.out _;(with_reducible repeat (first|refine blk_drewN ?_ _|refine blk_drew ?_|refine blk_alloc ?_ _));refine blk_far ?_ NB169_181.out _;(with_reducible repeat (first|refine blk_drewN ?_ _|refine blk_drew ?_|refine blk_alloc ?_ _));refine blk_far ?_ NB169_181.out _;(with_reducible repeat (first|refine blk_drewN ?_ _|refine blk_drew ?_|refine blk_alloc ?_ _));exact BK169.out) Try.underlying26 rfl (by kernel_rfl)) rfl ?_
          exact ⟨_,by first|rfl|(simp [errW_none,errW_some] <;> rfl)|(simp [*,errW_none,errW_some] <;> rfl),by (with_reducible repeat (first|apply Kd.N_alloc|apply Kd.N_drewN|apply Kd.N_drew));exact Kd.N_mono (Kd.N_far (p:=⟨gb169,3,none⟩) (Kd.N_far (p:=⟨gb169,2,none⟩) (Kd.N_far (p:=⟨gb169,1,none⟩) (Kd.N_far (p:=⟨gb169,0,none⟩) (Kd.N_far (p:=⟨gb181,3,none⟩) (Kd.N_far (p:=⟨gb181,2,none⟩) (Kd.N_far (p:=⟨gb181,1,none⟩) (Kd.N_far (p:=⟨gb181,0,none⟩) (Kd.N_mono (Kd.N_mono HO_5.out (fun k_ hk=>(⟨hk,hk.2.2.2.1⟩:_∧k_≠gb181))) (fun k_ hk=>(⟨hk,hk.1.2.2.1⟩:_∧k_≠gb169))) (fun _ hk=>hk.1.2) (.string (⟨#[110]⟩:ByteArray))) (fun _ hk=>hk.1.2) (.string (⟨#[]⟩:ByteArray))) (fun _ hk=>hk.1.2) (.bool false)) (fun _ hk=>hk.1.2) (.slice Ao125 x5_1.length co125)) (fun _ hk=>hk.2) (.string (⟨#[110]⟩:ByteArray))) (fun _ hk=>hk.2) (.string (⟨#[]⟩:ByteArray))) (fun _ hk=>hk.2) (.bool false)) (fun _ hk=>hk.2) (.slice Ao125 x5_1.length co125)) (fun _ hk=>hk.1.1.1),by repeat (first|(with_reducible first|exact HI0.out|apply IsS104.alloc|apply IsS104.drewN|apply IsS104.drew|apply IsS104.set_1|apply IsS104.set_2|refine IsS104.far ?_ NB0_169.out _|refine IsS104.far ?_ NB0_181.out _)|exact HI0.out),by repeat (first|(with_reducible first|exact HB.out|apply below_alloc|apply pw_below_drewN|apply below_drew1|refine below_set ?_ (IsS104.ge HI0.out)|refine below_set ?_ GE169.out|refine below_set ?_ GE181.out)|exact HB.out),by repeat (first|(with_reducible first|exact HK.out|apply KeepBut.set_|apply keep_drewN|apply keep_drew|apply keep_alloc|refine keep_far ?_ GW169.out _|refine keep_far ?_ GW181.out _)|exact HK.out)⟩
      ·rw [if_neg c103] at H
       have c103b0:(t182 == 5)=false:=beq_eq_false_iff_ne.mpr c103
       have c103b1:(t182 != 5)=true:=bne_iff_ne.mpr c103
       by_cases c132:t182=6
       ·rw [if_pos c132] at H
        have c132b0:(t182 == 6)=true:=beq_iff_eq.mpr c132
        have c132b1:(t182 != 6)=false:=bne_eq_false_iff_eq.mpr c132
        clear c132
        replace H:=Option.bind_eq_some_iff.mp H
        obtain ⟨⟨t222,t223,t224⟩,A1330,H⟩:=H
        replace H:(if 0≤(wrap64 (200 + t222)) then (if (wrap64 (200 + t222):Int).toNat≤281474976710656 then ((spec_l01Leaf.f (⟨#[97]⟩:ByteArray) (strOfNums (List.replicate (wrap64 (200 + t222):Int).toNat 0))).bind fun bt228=>(some (bt228.1,bt228.2.1,bt228.2.2.1,bt228.2.2.2,t223,t224))) else (none)) else (none))=some (r1,r2,r3,r4,r5,r6):=H
        have A133:=A0_ A1330
        clear A1330
        obtain ⟨ji134,hji134⟩: ∃ j_:Int,(wrap64 (200 + t222))=j_:=⟨_,rfl⟩
        replace H:(if 0≤(ji134) then (if (ji134:Int).toNat≤281474976710656 then ((spec_l01Leaf.f (⟨#[97]⟩:ByteArray) (strOfNums (List.replicate (ji134:Int).toNat 0))).bind fun bt228=>(some (bt228.1,bt228.2.1,bt228.2.2.1,bt228.2.2.2,t223,t224))) else (none)) else (none))=some (r1,r2,r3,r4,r5,r6):=by first|(rw [hji134] at H;exact H)|(simp only [hji134] at H ⊢;exact H)
        (try rw [hji134] at A2)
        (try rw [hji134] at A3)
        (try rw [hji134] at A4)
        (try rw [hji134] at A133)
        have hji134w:(IntKind.i64.wrap (200 + t222))=ji134:=(i64_w _).trans hji134
        by_cases c135:0≤(ji134)
        ·rw [if_pos c135] at H
         have c135b0:=eq_true c135
         have c135b1:decide (0≤(ji134))=true:=decide_eq_true c135
         clear c135
         by_cases c136:(ji134:Int).toNat≤281474976710656
         ·rw [if_pos c136] at H
          have c136b0:=eq_true c136
          have c136b1:decide ((ji134:Int).toNat≤281474976710656)=true:=decide_eq_true c136
          clear c136
          obtain ⟨y225,hy225⟩: ∃ y_:List Int,y_=(List.replicate (ji134:Int).toNat 0):=⟨_,rfl⟩
          replace H:((spec_l01Leaf.f (⟨#[97]⟩:ByteArray) (strOfNums y225)).bind fun bt228=>(some (bt228.1,bt228.2.1,bt228.2.2.1,bt228.2.2.2,t223,t224)))=some (r1,r2,r3,r4,r5,r6):=by first|(rw [hy225];with_reducible exact H)|(have H2_:=(Option.bind_some _ _).symm.trans H;rw [hy225];with_reducible exact H2_)|(have H2_:=(Option.bind_some _ _).symm.trans H;with_reducible exact H2_)|with_reducible exact H|(rw [hy225];exact H)|exact H
          have Ny225:=A0_ hy225
          clear hy225
          replace H:=Option.bind_eq_some_iff.mp H
          obtain ⟨⟨t228,t229,t230,t231⟩,A1370,H⟩:=H
          replace H:(some (t228,t229,t230,t231,t223,t224))=some (r1,r2,r3,r4,r5,r6):=H
          have A137:=A0_ A1370
          clear A1370
          simp only [Option.some.injEq,Prod.mk.injEq] at H
          obtain ⟨rfl,rfl,rfl,rfl,rfl,rfl⟩:=H
          go_enter Try.func39,Try.ntmps39
          go_wp2_with (first|((with_reducible refine gate_dst (N:=2) rfl ?_);refine box_event ?hg (N:=2) ?hd (cs:= #[.string (⟨#[]⟩:ByteArray), .string (⟨#[]⟩:ByteArray), .bool false, .slice none 0 0]) (t:=26) ?hr ?_;(case hd=>rfl);(case hg=>rfl);(case hr=>first|(go_simp;done)|(go_simp;rfl));intro gb169 hg w138 hbox hb;replace HB:=A0_ (below_step HB.out hb);have BK169:=A0_ (hbox);have GW169:=A0_ ((by rw [hg];exact (keep_size (w:=w) (row:=none) HK.out):w.heap.size≤gb169));have GE169:=A0_ ((Nat.le_trans HW0.out (by rw [hg];exact (keep_size (w:=w) (row:=none) HK.out):w.heap.size≤gb169):w0.heap.size≤gb169));replace HK:=A0_ (KeepBut.trans HK.out (KeepBut.of_below hb g none) (.inl rfl));have NB0_169:=A0_ ((by rw [hg];exact Nat.ne_of_lt (IsS104.lt (show IsS104 w0 _ g s0_0 s0_1 s0_2 from by repeat (first|(with_reducible first|exact HI0.out|apply IsS104.alloc|apply IsS104.drewN|apply IsS104.drew|apply IsS104.set_1|apply IsS104.set_2)|exact HI0.out))):g≠gb169));have NB169_0:=A0_ ((by rw [hg];exact Nat.ne_of_gt (IsS104.lt (show IsS104 w0 _ g s0_0 s0_1 s0_2 from by repeat (first|(with_reducible first|exact HI0.out|apply IsS104.alloc|apply IsS104.drewN|apply IsS104.drew|apply IsS104.set_1|apply IsS104.set_2)|exact HI0.out))):gb169≠g));replace HI0:=A0_ (IsS104.below HI0.out hb);clear hb hbox hg)|((with_reducible refine gate_callee (f:=84) rfl ?_);refine goesL_ (some 11) rfl rfl Try.func84 (by kernel_rfl) rfl #[.pointer (some ⟨g,0,none⟩), .int .i64 5] rfl (by (try simp only [List.map_toArray,List.map_cons,List.map_nil]);first|done|rfl|(simp only [List.length_drop,List.length_take];rfl)) ?_;(with_reducible refine (spec_l01Cur_size.calls g s0_0 s0_1 s0_2 5 t170 t171 t172 w0 _ ?side1 ?side2 A2.out).mono ?_);(case side1=>repeat (first|(with_reducible first|exact HI0.out|apply IsS104.alloc|apply IsS104.drewN|apply IsS104.drew|apply IsS104.set_1|apply IsS104.set_2|refine IsS104.far ?_ NB0_169.out _)|exact HI0.out));(case side2=>repeat (first|(with_reducible first|exact HB.out|apply below_alloc|apply pw_below_drewN|apply below_drew1|refine below_set ?_ (IsS104.ge HI0.out)|refine below_set ?_ GE169.out)|exact HB.out));rintro e w139 ⟨rfl,hi,hb,hk⟩;refine ⟨_,rfl, ?_⟩;replace BK169:=A0_ (KeepBut.blk hk BK169.out NB169_0.out (by simp));replace HK:=A0_ (KeepBut.trans HK.out hk (.inl rfl));replace HB:=A0_ (hb);replace HI0:=A0_ (hi);(try clear hb);(try clear hb2);(try clear hk);(try clear hi))|((with_reducible refine gate_callee (f:=37) rfl ?_);refine goesL_ (some 13) rfl rfl Try.func37 (by kernel_rfl) rfl #[.pointer (some ⟨g,0,none⟩), .int .i64 (wrap64 (1 + t170))] rfl (by (try simp only [List.map_toArray,List.map_cons,List.map_nil]);first|done|rfl|(simp only [List.length_drop,List.length_take];rfl)) ?_;(with_reducible refine (spec_l01DrawTree.calls k g s0_0 t171 t172 (wrap64 (1 + t170)) t173 t174 t175 t176 t179 t180 w0 _ ?side1 ?side2 A3.out).mono ?_);(case side1=>repeat (first|(with_reducible first|exact HI0.out|apply IsS104.alloc|apply IsS104.drewN|apply IsS104.drew|apply IsS104.set_1|apply IsS104.set_2|refine IsS104.far ?_ NB0_169.out _)|exact HI0.out));(case side2=>repeat (first|(with_reducible first|exact HB.out|apply below_alloc|apply pw_below_drewN|apply below_drew1|refine below_set ?_ (IsS104.ge HI0.out)|refine below_set ?_ GE169.out)|exact HB.out));rintro e w140 ⟨v177,rfl,ho0,hi,hb,hk⟩;refine ⟨_,rfl, ?_⟩;have HO178:=A0_ (Kd.N_lower (Kd.N_mono (ok':=fun k_=>(w.heap.size≤k_)∧k_≠gb169∧k_≠g) (Kd.R_N (Kd.R_bound ho0)) (fun k_ hk_=>⟨(Nat.le_trans (keep_size (w:=w) (row:=none) HK.out) hk_.2.1),(Kd.freshB BK169.out k_ hk_.2.1),(IsS104.fresh HI0.out k_ hk_.2.1)⟩)) (keep_size (w:=w) (row:=none) HK.out));replace BK169:=A0_ (KeepBut.blk hk BK169.out NB169_0.out (by simp));replace HK:=A0_ (KeepBut.trans HK.out hk (.inl rfl));replace HB:=A0_ (hb);replace HI0:=A0_ (hi);(try clear hb);(try clear hb2);(try clear hk);(try clear hi);(try clear ho0))|((with_reducible refine gate_dst (N:=3) rfl ?_);refine box_event ?hg (N:=3) ?hd (cs:= #[.string (⟨#[]⟩:ByteArray), .string (⟨#[]⟩:ByteArray), .bool false, .slice none 0 0]) (t:=26) ?hr ?_;(case hd=>rfl);(case hg=>rfl);(case hr=>first|(go_simp;done)|(go_simp;rfl));intro gb181 hg w141 hbox hb;replace HO178:=A0_ (Kd.N_below (Kd.N_elderB HO178.out gb181 (Nat.le_of_eq hg.symm)) hb);replace HB:=A0_ (below_step HB.out hb);have BK181:=A0_ (hbox);have GW181:=A0_ ((by rw [hg];exact (keep_size (w:=w) (row:=none) HK.out):w.heap.size≤gb181));have GE181:=A0_ ((Nat.le_trans HW0.out (by rw [hg];exact (keep_size (w:=w) (row:=none) HK.out):w.heap.size≤gb181):w0.heap.size≤gb181));replace HK:=A0_ (KeepBut.trans HK.out (KeepBut.of_below hb g none) (.inl rfl));have NB169_181:=A0_ ((by rw [hg];exact Nat.ne_of_lt (blk_lt BK169.out):gb169≠gb181));have NB181_169:=A0_ ((by rw [hg];exact Nat.ne_of_gt (blk_lt BK169.out):gb181≠gb169));replace BK169:=A0_ (blk_below BK169.out hb);have NB0_181:=A0_ ((by rw [hg];exact Nat.ne_of_lt (IsS104.lt (show IsS104 w0 _ g s0_0 t179 t180 from by repeat (first|(with_reducible first|exact HI0.out|apply IsS104.alloc|apply IsS104.drewN|apply IsS104.drew|apply IsS104.set_1|apply IsS104.set_2|refine IsS104.far ?_ NB0_169.out _)|exact HI0.out))):g≠gb181));have NB181_0:=A0_ ((by rw [hg];exact Nat.ne_of_gt (IsS104.lt (show IsS104 w0 _ g s0_0 t179 t180 from by repeat (first|(with_reducible first|exact HI0.out|apply IsS104.alloc|apply IsS104.drewN|apply IsS104.drew|apply IsS104.set_1|apply IsS104.set_2|refine IsS104.far ?_ NB0_169.out _)|exact HI0.out))):gb181≠g));replace HI0:=A0_ (IsS104.below HI0.out hb);clear hb hbox hg;have hnb142:=NB181_169.out;have hnc142:=NB169_181.out;have hnb143:=NB181_0.out;have hnc143:=NB0_181.out;obtain ⟨hcz144_0,hcz144_1,hcz144_2,hcz144_3⟩:=bc4_ BK181.out;obtain ⟨hfz144_0,hfz144_1,hfz144_2,hfz144_3⟩:=bf4_ BK181.out;obtain ⟨Ao145,co145,eo145⟩:=Kd.N_slice HO178.out;subst eo145)|((with_reducible refine gate_callee (f:=38) rfl ?_);refine goesL_ (some 15) rfl rfl Try.func38 (by kernel_rfl) rfl #[.pointer (some ⟨g,0,none⟩), .int .i64 24] rfl (by (try simp only [List.map_toArray,List.map_cons,List.map_nil]);first|done|rfl|(simp only [List.length_drop,List.length_take];rfl)) ?_;(with_reducible refine (spec_l01Cur_pick.calls g s0_0 t179 t180 24 t182 t183 t184 w0 _ ?side1 ?side2 A4.out).mono ?_);(case side1=>repeat (first|(with_reducible first|exact HI0.out|apply IsS104.alloc|apply IsS104.drewN|apply IsS104.drew|apply IsS104.set_1|apply IsS104.set_2|refine IsS104.far ?_ NB0_169.out _|refine IsS104.far ?_ NB0_181.out _)|exact HI0.out));(case side2=>repeat (first|(with_reducible first|exact HB.out|apply below_alloc|apply pw_below_drewN|apply below_drew1|refine below_set ?_ (IsS104.ge HI0.out)|refine below_set ?_ GE169.out|refine below_set ?_ GE181.out)|exact HB.out));rintro e w146 ⟨rfl,hi,hb,hk⟩;refine ⟨_,rfl, ?_⟩;replace BK169:=A0_ (KeepBut.blk hk (g':=gb169) (o:= .cells #[.string (⟨#[]⟩:ByteArray), .string (⟨#[]⟩:ByteArray), .bool false, .slice none 0 0] 26 (0,0)) (by (with_reducible repeat (first|refine blk_drewN ?_ _|refine blk_drew ?_|refine blk_alloc ?_ _));refine blk_far ?_ NB169_181.out _;(with_reducible repeat (first|refine blk_drewN ?_ _|refine blk_drew ?_|refine blk_alloc ?_ _));refine blk_far ?_ NB169_181.out _;(with_reducible repeat (first|refine blk_drewN ?_ _|refine blk_drew ?_|refine blk_alloc ?_ _));refine blk_far ?_ NB169_181.out _;(with_reducible repeat (first|refine blk_drewN ?_ _|refine blk_drew ?_|refine blk_alloc ?_ _));refine blk_far ?_ NB169_181.out _;(with_reducible repeat (first|refine blk_drewN ?_ _|refine blk_drew ?_|refine blk_alloc ?_ _));exact BK169.out) NB169_0.out (by simp));replace HO178:=A0_ (Kd.N_mono (Kd.N_keep (Kd.N_mono (ok:=fun k_=>((((w.heap.size≤k_))∧(k_≠gb169∧k_≠g))∧k_≠gb181)) (Kd.N_mono (Kd.N_far (p:=⟨gb181,3,none⟩) (Kd.N_far (p:=⟨gb181,2,none⟩) (Kd.N_far (p:=⟨gb181,1,none⟩) (Kd.N_far (p:=⟨gb181,0,none⟩) (Kd.N_mono HO178.out (fun k_ hk=>(⟨hk,hk.2⟩:_∧k_≠gb181))) (fun _ hk=>hk.2) (.string t173)) (fun _ hk=>hk.2) (.string t174)) (fun _ hk=>hk.2) (.bool t175)) (fun _ hk=>hk.2) (.slice Ao145 t176.length co145)) (fun _ h_=>h_.1)) (fun k_ hk_=>(⟨hk_,(by first|exact hk_.1.2.2|(have hk0_:=hk_;revert hk0_;(try simp only [and_imp]);intros;(repeat' apply And.intro) <;> assumption))⟩:_∧k_≠g))) hk (fun _ h=>h.2)) (fun _ h=>h.1));replace BK181:=A0_ (KeepBut.blk hk (g':=gb181) (o:= .cells #[.string t173, .string t174, .bool t175, .slice Ao145 t176.length co145] 26 (0,0)) (by (with_reducible repeat (first|refine blk_drewN ?_ _|refine blk_drew ?_|refine blk_alloc ?_ _));refine blk_put (cs:= #[.string t173, .string t174, .bool t175, .slice none 0 0]) ?_ 3 _ rfl;(with_reducible repeat (first|refine blk_drewN ?_ _|refine blk_drew ?_|refine blk_alloc ?_ _));refine blk_put (cs:= #[.string t173, .string t174, .bool false, .slice none 0 0]) ?_ 2 _ rfl;(with_reducible repeat (first|refine blk_drewN ?_ _|refine blk_drew ?_|refine blk_alloc ?_ _));refine blk_put (cs:= #[.string t173, .string (⟨#[]⟩:ByteArray), .bool false, .slice none 0 0]) ?_ 1 _ rfl;(with_reducible repeat (first|refine blk_drewN ?_ _|refine blk_drew ?_|refine blk_alloc ?_ _));refine blk_put (cs:= #[.string (⟨#[]⟩:ByteArray), .string (⟨#[]⟩:ByteArray), .bool false, .slice none 0 0]) ?_ 0 _ rfl;(with_reducible repeat (first|refine blk_drewN ?_ _|refine blk_drew ?_|refine blk_alloc ?_ _));exact BK181.out) NB181_0.out (by simp));replace HK:=A0_ (KeepBut.trans (by repeat (first|(with_reducible first|exact HK.out|apply KeepBut.set_|apply keep_drewN|apply keep_drew|apply keep_alloc|refine keep_far ?_ GW169.out _|refine keep_far ?_ GW181.out _)|exact HK.out)) hk (.inl rfl));replace HB:=A0_ (hb);replace HI0:=A0_ (hi);(try clear hb);(try clear hb2);(try clear hk);(try clear hi))|((with_reducible refine gate_callee (f:=38) rfl ?_);refine goesL_ (some 76) rfl rfl Try.func38 (by kernel_rfl) rfl #[.pointer (some ⟨g,0,none⟩), .int .i64 2] rfl (by (try simp only [List.map_toArray,List.map_cons,List.map_nil]);first|done|rfl|(simp only [List.length_drop,List.length_take];rfl)) ?_;(with_reducible refine (spec_l01Cur_pick.calls g s0_0 t183 t184 2 t222 t223 t224 w0 _ ?side1 ?side2 A133.out).mono ?_);(case side1=>repeat (first|(with_reducible first|exact HI0.out|apply IsS104.alloc|apply IsS104.drewN|apply IsS104.drew|apply IsS104.set_1|apply IsS104.set_2|refine IsS104.far ?_ NB0_169.out _|refine IsS104.far ?_ NB0_181.out _)|exact HI0.out));(case side2=>repeat (first|(with_reducible first|exact HB.out|apply below_alloc|apply pw_below_drewN|apply below_drew1|refine below_set ?_ (IsS104.ge HI0.out)|refine below_set ?_ GE169.out|refine below_set ?_ GE181.out)|exact HB.out));rintro e w147 ⟨rfl,hi,hb,hk⟩;refine ⟨_,rfl, ?_⟩;replace BK169:=A0_ (KeepBut.blk hk BK169.out NB169_0.out (by simp));replace HO178:=A0_ (Kd.N_mono (Kd.N_keep (Kd.N_mono (ok:=fun k_=>((((w.heap.size≤k_))∧(k_≠gb169∧k_≠g))∧k_≠gb181)) HO178.out (fun k_ hk_=>(⟨hk_,(by first|exact hk_.1.2.2|(have hk0_:=hk_;revert hk0_;(try simp only [and_imp]);intros;(repeat' apply And.intro) <;> assumption))⟩:_∧k_≠g))) hk (fun _ h=>h.2)) (fun _ h=>h.1));replace BK181:=A0_ (KeepBut.blk hk BK181.out NB181_0.out (by simp));replace HK:=A0_ (KeepBut.trans HK.out hk (.inl rfl));replace HB:=A0_ (hb);replace HI0:=A0_ (hi);(try clear hb);(try clear hb2);(try clear hk);(try clear hi))|((with_reducible refine gate_dst (N:=78) rfl ?_);refine Kd.R_make (Kd.int .u8) _ 5 rfl (N:=78) rfl 22 _ _ rfl ji134 rfl rfl Try.underlying22 (.int .u8 0) 1 info5 rfl (by decide) (by omega) 0 (ok:=fun _=>True) (okp:=fun _=>True) rfl (fun _ hk=>hk) trivial (of_decide_eq_true (by first|(with_reducible assumption)|assumption)) (Nat.le_trans (Nat.mul_le_mul_right _ (of_decide_eq_true (by first|(with_reducible assumption)|assumption):ji134.toNat≤281474976710656)) (by omega)) (Below.refl _ _) (Nat.le_refl _) ?_;intro v226 w148 ho149 hb hg_ hnew_;clear hg_ hnew_;(first|rw [← Ny225.out] at ho149|(simp only [Int.reduceToNat] at ho149;rw [← Ny225.out] at ho149));replace HO178:=A0_ (Kd.N_elder' HO178.out (Kd.R_base ho149) hb);have HO227:=A0_ (Kd.R_lower (Kd.R_newM (M:=fun k_=>(w.heap.size≤k_)) ho149 (keep_size (w:=w) (row:=none) HK.out) (fun k_ h_=>h_)) (keep_size (w:=w) (row:=none) HK.out));replace HI0:=A0_ (IsS104.below HI0.out hb);replace BK169:=A0_ (blk_below BK169.out hb);replace BK181:=A0_ (blk_below BK181.out hb);replace HK:=A0_ (KeepBut.trans HK.out (KeepBut.of_below hb g none) (.inl rfl));replace HB:=A0_ (below_step HB.out hb);clear hb ho149;have hcv150:=own_string (P:=Try.prog) Try.underlying22 Try.underlying5 Try.underlying9 (Kd.own_of_R HO227.out))|((with_reducible refine gate_callee (f:=79) rfl ?_);refine goesL_ (some 80) rfl rfl Try.func79 (by kernel_rfl) rfl #[.string (⟨#[97]⟩:ByteArray), .string (strOfNums y225)] rfl (by (try simp only [List.map_toArray,List.map_cons,List.map_nil]);first|done|rfl|(simp only [List.length_drop,List.length_take];rfl)) ?_;(with_reducible refine (spec_l01Leaf.calls (⟨#[97]⟩:ByteArray) (strOfNums y225) t228 t229 t230 t231 _ A137.out).mono ?_);rintro e w151 ⟨v232,rfl,ho0,hb⟩;refine ⟨_,rfl, ?_⟩;have HO233:=A0_ (Kd.N_lower (Kd.N_mono (ok':=fun k_=>(w.heap.size≤k_)∧some k_≠(.slice Ao145 t176.length co145:Value).ownBlock∧some k_≠(v226:Value).ownBlock∧k_≠gb169∧k_≠gb181∧k_≠g) (Kd.R_N (Kd.R_bound ho0)) (fun k_ hk_=>⟨(Nat.le_trans (keep_size (w:=w) (row:=none) HK.out) hk_.2.1),(Kd.fresh' (Kd.N_lt HO178.out) k_ hk_.2.1),(Kd.fresh' (Kd.R_lt HO227.out) k_ hk_.2.1),(Kd.freshB BK169.out k_ hk_.2.1),(Kd.freshB BK181.out k_ hk_.2.1),(IsS104.fresh HI0.out k_ hk_.2.1)⟩)) (keep_size (w:=w) (row:=none) HK.out));replace HO178:=A0_ (Kd.N_elder' HO178.out (Kd.R_base ho0) hb);replace HO227:=A0_ (Kd.R_below HO227.out hb);replace HI0:=A0_ (IsS104.below HI0.out hb);replace BK169:=A0_ (blk_below BK169.out hb);replace BK181:=A0_ (blk_below BK181.out hb);replace HK:=A0_ (KeepBut.trans HK.out (KeepBut.of_below hb g none) (.inl rfl));replace HB:=A0_ (below_step HB.out hb);(try clear hb);(try clear hb2);(try clear hk);(try clear hi);(try clear ho0);obtain ⟨hcz152_0,hcz152_1,hcz152_2,hcz152_3⟩:=bc4_ BK181.out;obtain ⟨hfz152_0,hfz152_1,hfz152_2,hfz152_3⟩:=bf4_ BK181.out;obtain ⟨Ao153,co153,eo153⟩:=Kd.N_slice HO233.out;subst eo153;have hnb154:=NB169_0.out;have hnc154:=NB0_169.out;obtain ⟨hcz155_0,hcz155_1,hcz155_2,hcz155_3⟩:=bc4_ BK169.out;obtain ⟨hfz155_0,hfz155_1,hfz155_2,hfz155_3⟩:=bf4_ BK169.out))
          refine bodyPost_ret (results_cell_row rfl _ _ gb169 26 #[.string t228, .string t229, .bool t230, .slice Ao153 t231.length co153] (0,0) _ rfl (by (with_reducible repeat (first|refine blk_drewN ?_ _|refine blk_drew ?_|refine blk_alloc ?_ _));refine blk_put (cs:= #[.string t228, .string t229, .bool t230, .slice none 0 0]) ?_ 3 _ rfl;(with_reducible repeat (first|refine blk_drewN ?_ _|refine blk_drew ?_|refine blk_alloc ?_ _));refine blk_put (cs:= #[.string t228, .string t229, .bool false, .slice none 0 0]) ?_ 2 _ rfl;(with_reducible repeat (first|refine blk_drewN ?_ _|refine blk_drew ?_|refine blk_alloc ?_ _));refine blk_put (cs:= #[.string t228, .string (⟨#[]⟩:ByteArray), .bool false, .slice none 0 0]) ?_ 1 _ rfl;(with_reducible repeat (first|refine blk_drewN ?_ _|refine blk_drew ?_|refine blk_alloc ?_ _));refine blk_put (cs:= #[.string (⟨#[]⟩:ByteArray), .string (⟨#[]⟩:ByteArray), .bool false, .slice none 0 0]) ?_ 0 _ rfl;(with_reducible repeat (first|refine blk_drewN ?_ _|refine blk_drew ?_|refine blk_alloc ?_ _));refine blk_far ?_ NB169_181.out _;(with_reducible repeat (first|refine blk_drewN ?_ _|refine blk_drew ?_|refine blk_alloc ?_ _));refine blk_far ?_ NB169_181.out _;(with_reducible repeat (first|refine blk_drewN ?_ _|refine blk_drew ?_|refine blk_alloc ?_ _));refine blk_far ?_ NB169_181.out _;(with_reducible repeat (first|refine blk_drewN ?_ _|refine blk_drew ?_|refine blk_alloc ?_ _));refine blk_far ?_ NB169_181.out _;(with_reducible repeat (first|refine blk_drewN ?_ _|refine blk_drew ?_|refine blk_alloc ?_ _));exact BK169.out) Try.underlying26 rfl (by kernel_rfl)) rfl ?_
          exact ⟨_,by first|rfl|(simp [errW_none,errW_some] <;> rfl)|(simp only [← hji134];first|rfl|(simp [errW_none,errW_some] <;> rfl))|(simp [*,errW_none,errW_some] <;> rfl),by (with_reducible repeat (first|apply Kd.N_alloc|apply Kd.N_drewN|apply Kd.N_drew));exact Kd.N_mono (Kd.N_far (p:=⟨gb169,3,none⟩) (Kd.N_far (p:=⟨gb169,2,none⟩) (Kd.N_far (p:=⟨gb169,1,none⟩) (Kd.N_far (p:=⟨gb169,0,none⟩) (Kd.N_far (p:=⟨gb181,3,none⟩) (Kd.N_far (p:=⟨gb181,2,none⟩) (Kd.N_far (p:=⟨gb181,1,none⟩) (Kd.N_far (p:=⟨gb181,0,none⟩) (Kd.N_mono (Kd.N_mono HO233.out (fun k_ hk=>(⟨hk,hk.2.2.2.2.1⟩:_∧k_≠gb181))) (fun k_ hk=>(⟨hk,hk.1.2.2.2.1⟩:_∧k_≠gb169))) (fun _ hk=>hk.1.2) (.string t228)) (fun _ hk=>hk.1.2) (.string t229)) (fun _ hk=>hk.1.2) (.bool t230)) (fun _ hk=>hk.1.2) (.slice Ao153 t231.length co153)) (fun _ hk=>hk.2) (.string t228)) (fun _ hk=>hk.2) (.string t229)) (fun _ hk=>hk.2) (.bool t230)) (fun _ hk=>hk.2) (.slice Ao153 t231.length co153)) (fun _ hk=>hk.1.1.1),by repeat (first|(with_reducible first|exact HI0.out|apply IsS104.alloc|apply IsS104.drewN|apply IsS104.drew|apply IsS104.set_1|apply IsS104.set_2|refine IsS104.far ?_ NB0_169.out _|refine IsS104.far ?_ NB0_181.out _)|exact HI0.out),by repeat (first|(with_reducible first|exact HB.out|apply below_alloc|apply pw_below_drewN|apply below_drew1|refine below_set ?_ (IsS104.ge HI0.out)|refine below_set ?_ GE169.out|refine below_set ?_ GE181.out)|exact HB.out),by repeat (first|(with_reducible first|exact HK.out|apply KeepBut.set_|apply keep_drewN|apply keep_drew|apply keep_alloc|refine keep_far ?_ GW169.out _|refine keep_far ?_ GW181.out _)|exact HK.out)⟩
         ·rw [if_neg c136] at H
          exact absurd H (by simp)
        ·rw [if_neg c135] at H
         exact absurd H (by simp)
       ·rw [if_neg c132] at H
        have c132b0:(t182 == 6)=false:=beq_eq_false_iff_ne.mpr c132
        have c132b1:(t182 != 6)=true:=bne_iff_ne.mpr c132
        by_cases c156:t182=7
        ·rw [if_pos c156] at H
         have c156b0:(t182 == 7)=true:=beq_iff_eq.mpr c156
         have c156b1:(t182 != 7)=false:=bne_eq_false_iff_eq.mpr c156
         clear c156
         obtain ⟨y234,hy234⟩: ∃ y_:List (S26),y_=(([]:List (S26))):=⟨_,rfl⟩
         replace H:(spec_l01DrawAny.l2 k y234 0 s0_0 t183 t184)=some (r1,r2,r3,r4,r5,r6):=by first|(rw [hy234];with_reducible exact H)|(have H2_:=(Option.bind_some _ _).symm.trans H;rw [hy234];with_reducible exact H2_)|(have H2_:=(Option.bind_some _ _).symm.trans H;with_reducible exact H2_)|with_reducible exact H|(rw [hy234];exact H)|exact H
         have Ny234:=A0_ hy234
         clear hy234
         have H':=A0_ H
         clear H
         go_enter Try.func39,Try.ntmps39
         go_wp2_with (first|((with_reducible refine gate_dst (N:=2) rfl ?_);refine box_event ?hg (N:=2) ?hd (cs:= #[.string (⟨#[]⟩:ByteArray), .string (⟨#[]⟩:ByteArray), .bool false, .slice none 0 0]) (t:=26) ?hr ?_;(case hd=>rfl);(case hg=>rfl);(case hr=>first|(go_simp;done)|(go_simp;rfl));intro gb169 hg w157 hbox hb;replace HB:=A0_ (below_step HB.out hb);have BK169:=A0_ (hbox);have GW169:=A0_ ((by rw [hg];exact (keep_size (w:=w) (row:=none) HK.out):w.heap.size≤gb169));have GE169:=A0_ ((Nat.le_trans HW0.out (by rw [hg];exact (keep_size (w:=w) (row:=none) HK.out):w.heap.size≤gb169):w0.heap.size≤gb169));replace HK:=A0_ (KeepBut.trans HK.out (KeepBut.of_below hb g none) (.inl rfl));have NB0_169:=A0_ ((by rw [hg];exact Nat.ne_of_lt (IsS104.lt (show IsS104 w0 _ g s0_0 s0_1 s0_2 from by repeat (first|(with_reducible first|exact HI0.out|apply IsS104.alloc|apply IsS104.drewN|apply IsS104.drew|apply IsS104.set_1|apply IsS104.set_2)|exact HI0.out))):g≠gb169));have NB169_0:=A0_ ((by rw [hg];exact Nat.ne_of_gt (IsS104.lt (show IsS104 w0 _ g s0_0 s0_1 s0_2 from by repeat (first|(with_reducible first|exact HI0.out|apply IsS104.alloc|apply IsS104.drewN|apply IsS104.drew|apply IsS104.set_1|apply IsS104.set_2)|exact HI0.out))):gb169≠g));replace HI0:=A0_ (IsS104.below HI0.out hb);clear hb hbox hg)|((with_reducible refine gate_callee (f:=84) rfl ?_);refine goesL_ (some 11) rfl rfl Try.func84 (by kernel_rfl) rfl #[.pointer (some ⟨g,0,none⟩), .int .i64 5] rfl (by (try simp only [List.map_toArray,List.map_cons,List.map_nil]);first|done|rfl|(simp only [List.length_drop,List.length_take];rfl)) ?_;(with_reducible refine (spec_l01Cur_size.calls g s0_0 s0_1 s0_2 5 t170 t171 t172 w0 _ ?side1 ?side2 A2.out).mono ?_);(case side1=>repeat (first|(with_reducible first|exact HI0.out|apply IsS104.alloc|apply IsS104.drewN|apply IsS104.drew|apply IsS104.set_1|apply IsS104.set_2|refine IsS104.far ?_ NB0_169.out _)|exact HI0.out));(case side2=>repeat (first|(with_reducible first|exact HB.out|apply below_alloc|apply pw_below_drewN|apply below_drew1|refine below_set ?_ (IsS104.ge HI0.out)|refine below_set ?_ GE169.out)|exact HB.out));rintro e w158 ⟨rfl,hi,hb,hk⟩;refine ⟨_,rfl, ?_⟩;replace BK169:=A0_ (KeepBut.blk hk BK169.out NB169_0.out (by simp));replace HK:=A0_ (KeepBut.trans HK.out hk (.inl rfl));replace HB:=A0_ (hb);replace HI0:=A0_ (hi);(try clear hb);(try clear hb2);(try clear hk);(try clear hi))|((with_reducible refine gate_callee (f:=37) rfl ?_);refine goesL_ (some 13) rfl rfl Try.func37 (by kernel_rfl) rfl #[.pointer (some ⟨g,0,none⟩), .int .i64 (wrap64 (1 + t170))] rfl (by (try simp only [List.map_toArray,List.map_cons,List.map_nil]);first|done|rfl|(simp only [List.length_drop,List.length_take];rfl)) ?_;(with_reducible refine (spec_l01DrawTree.calls k g s0_0 t171 t172 (wrap64 (1 + t170)) t173 t174 t175 t176 t179 t180 w0 _ ?side1 ?side2 A3.out).mono ?_);(case side1=>repeat (first|(with_reducible first|exact HI0.out|apply IsS104.alloc|apply IsS104.drewN|apply IsS104.drew|apply IsS104.set_1|apply IsS104.set_2|refine IsS104.far ?_ NB0_169.out _)|exact HI0.out));(case side2=>repeat (first|(with_reducible first|exact HB.out|apply below_alloc|apply pw_below_drewN|apply below_drew1|refine below_set ?_ (IsS104.ge HI0.out)|refine below_set ?_ GE169.out)|exact HB.out));rintro e w159 ⟨v177,rfl,ho0,hi,hb,hk⟩;refine ⟨_,rfl, ?_⟩;have HO178:=A0_ (Kd.N_lower (Kd.N_mono (ok':=fun k_=>(w.heap.size≤k_)∧k_≠gb169∧k_≠g) (Kd.R_N (Kd.R_bound ho0)) (fun k_ hk_=>⟨(Nat.le_trans (keep_size (w:=w) (row:=none) HK.out) hk_.2.1),(Kd.freshB BK169.out k_ hk_.2.1),(IsS104.fresh HI0.out k_ hk_.2.1)⟩)) (keep_size (w:=w) (row:=none) HK.out));replace BK169:=A0_ (KeepBut.blk hk BK169.out NB169_0.out (by simp));replace HK:=A0_ (KeepBut.trans HK.out hk (.inl rfl));replace HB:=A0_ (hb);replace HI0:=A0_ (hi);(try clear hb);(try clear hb2);(try clear hk);(try clear hi);(try clear ho0))|((with_reducible refine gate_dst (N:=3) rfl ?_);refine box_event ?hg (N:=3) ?hd (cs:= #[.string (⟨#[]⟩:ByteArray), .string (⟨#[]⟩:ByteArray), .bool false, .slice none 0 0]) (t:=26) ?hr ?_;(case hd=>rfl);(case hg=>rfl);(case hr=>first|(go_simp;done)|(go_simp;rfl));intro gb181 hg w160 hbox hb;replace HO178:=A0_ (Kd.N_below (Kd.N_elderB HO178.out gb181 (Nat.le_of_eq hg.symm)) hb);replace HB:=A0_ (below_step HB.out hb);have BK181:=A0_ (hbox);have GW181:=A0_ ((by rw [hg];exact (keep_size (w:=w) (row:=none) HK.out):w.heap.size≤gb181));have GE181:=A0_ ((Nat.le_trans HW0.out (by rw [hg];exact (keep_size (w:=w) (row:=none) HK.out):w.heap.size≤gb181):w0.heap.size≤gb181));replace HK:=A0_ (KeepBut.trans HK.out (KeepBut.of_below hb g none) (.inl rfl));have NB169_181:=A0_ ((by rw [hg];exact Nat.ne_of_lt (blk_lt BK169.out):gb169≠gb181));have NB181_169:=A0_ ((by rw [hg];exact Nat.ne_of_gt (blk_lt BK169.out):gb181≠gb169));replace BK169:=A0_ (blk_below BK169.out hb);have NB0_181:=A0_ ((by rw [hg];exact Nat.ne_of_lt (IsS104.lt (show IsS104 w0 _ g s0_0 t179 t180 from by repeat (first|(with_reducible first|exact HI0.out|apply IsS104.alloc|apply IsS104.drewN|apply IsS104.drew|apply IsS104.set_1|apply IsS104.set_2|refine IsS104.far ?_ NB0_169.out _)|exact HI0.out))):g≠gb181));have NB181_0:=A0_ ((by rw [hg];exact Nat.ne_of_gt (IsS104.lt (show IsS104 w0 _ g s0_0 t179 t180 from by repeat (first|(with_reducible first|exact HI0.out|apply IsS104.alloc|apply IsS104.drewN|apply IsS104.drew|apply IsS104.set_1|apply IsS104.set_2|refine IsS104.far ?_ NB0_169.out _)|exact HI0.out))):gb181≠g));replace HI0:=A0_ (IsS104.below HI0.out hb);clear hb hbox hg;have hnb161:=NB181_169.out;have hnc161:=NB169_181.out;have hnb162:=NB181_0.out;have hnc162:=NB0_181.out;obtain ⟨hcz163_0,hcz163_1,hcz163_2,hcz163_3⟩:=bc4_ BK181.out;obtain ⟨hfz163_0,hfz163_1,hfz163_2,hfz163_3⟩:=bf4_ BK181.out;obtain ⟨Ao164,co164,eo164⟩:=Kd.N_slice HO178.out;subst eo164)|((with_reducible refine gate_callee (f:=38) rfl ?_);refine goesL_ (some 15) rfl rfl Try.func38 (by kernel_rfl) rfl #[.pointer (some ⟨g,0,none⟩), .int .i64 24] rfl (by (try simp only [List.map_toArray,List.map_cons,List.map_nil]);first|done|rfl|(simp only [List.length_drop,List.length_take];rfl)) ?_;(with_reducible refine (spec_l01Cur_pick.calls g s0_0 t179 t180 24 t182 t183 t184 w0 _ ?side1 ?side2 A4.out).mono ?_);(case side1=>repeat (first|(with_reducible first|exact HI0.out|apply IsS104.alloc|apply IsS104.drewN|apply IsS104.drew|apply IsS104.set_1|apply IsS104.set_2|refine IsS104.far ?_ NB0_169.out _|refine IsS104.far ?_ NB0_181.out _)|exact HI0.out));(case side2=>repeat (first|(with_reducible first|exact HB.out|apply below_alloc|apply pw_below_drewN|apply below_drew1|refine below_set ?_ (IsS104.ge HI0.out)|refine below_set ?_ GE169.out|refine below_set ?_ GE181.out)|exact HB.out));rintro e w165 ⟨rfl,hi,hb,hk⟩;refine ⟨_,rfl, ?_⟩;replace BK169:=A0_ (KeepBut.blk hk (g':=gb169) (o:= .cells #[.string (⟨#[]⟩:ByteArray), .string (⟨#[]⟩:ByteArray), .bool false, .slice none 0 0] 26 (0,0)) (by (with_reducible repeat (first|refine blk_drewN ?_ _|refine blk_drew ?_|refine blk_alloc ?_ _));refine blk_far ?_ NB169_181.out _;(with_reducible repeat (first|refine blk_drewN ?_ _|refine blk_drew ?_|refine blk_alloc ?_ _));refine blk_far ?_ NB169_181.out _;(with_reducible repeat (first|refine blk_drewN ?_ _|refine blk_drew ?_|refine blk_alloc ?_ _));refine blk_far ?_ NB169_181.out _;(with_reducible repeat (first|refine blk_drewN ?_ _|refine blk_drew ?_|refine blk_alloc ?_ _));refine blk_far ?_ NB169_181.out _;(with_reducible repeat (first|refine blk_drewN ?_ _|refine blk_drew ?_|refine blk_alloc ?_ _));exact BK169.out) NB169_0.out (by simp));replace HO178:=A0_ (Kd.N_mono (Kd.N_keep (Kd.N_mono (ok:=fun k_=>((((w.heap.size≤k_))∧(k_≠gb169∧k_≠g))∧k_≠gb181)) (Kd.N_mono (Kd.N_far (p:=⟨gb181,3,none⟩) (Kd.N_far (p:=⟨gb181,2,none⟩) (Kd.N_far (p:=⟨gb181,1,none⟩) (Kd.N_far (p:=⟨gb181,0,none⟩) (Kd.N_mono HO178.out (fun k_ hk=>(⟨hk,hk.2⟩:_∧k_≠gb181))) (fun _ hk=>hk.2) (.string t173)) (fun _ hk=>hk.2) (.string t174)) (fun _ hk=>hk.2) (.bool t175)) (fun _ hk=>hk.2) (.slice Ao164 t176.length co164)) (fun _ h_=>h_.1)) (fun k_ hk_=>(⟨hk_,(by first|exact hk_.1.2.2|(have hk0_:=hk_;revert hk0_;(try simp only [and_imp]);intros;(repeat' apply And.intro) <;> assumption))⟩:_∧k_≠g))) hk (fun _ h=>h.2)) (fun _ h=>h.1));replace BK181:=A0_ (KeepBut.blk hk (g':=gb181) (o:= .cells #[.string t173, .string t174, .bool t175, .slice Ao164 t176.length co164] 26 (0,0)) (by (with_reducible repeat (first|refine blk_drewN ?_ _|refine blk_drew ?_|refine blk_alloc ?_ _));refine blk_put (cs:= #[.string t173, .string t174, .bool t175, .slice none 0 0]) ?_ 3 _ rfl;(with_reducible repeat (first|refine blk_drewN ?_ _|refine blk_drew ?_|refine blk_alloc ?_ _));refine blk_put (cs:= #[.string t173, .string t174, .bool false, .slice none 0 0]) ?_ 2 _ rfl;(with_reducible repeat (first|refine blk_drewN ?_ _|refine blk_drew ?_|refine blk_alloc ?_ _));refine blk_put (cs:= #[.string t173, .string (⟨#[]⟩:ByteArray), .bool false, .slice none 0 0]) ?_ 1 _ rfl;(with_reducible repeat (first|refine blk_drewN ?_ _|refine blk_drew ?_|refine blk_alloc ?_ _));refine blk_put (cs:= #[.string (⟨#[]⟩:ByteArray), .string (⟨#[]⟩:ByteArray), .bool false, .slice none 0 0]) ?_ 0 _ rfl;(with_reducible repeat (first|refine blk_drewN ?_ _|refine blk_drew ?_|refine blk_alloc ?_ _));exact BK181.out) NB181_0.out (by simp));replace HK:=A0_ (KeepBut.trans (by repeat (first|(with_reducible first|exact HK.out|apply KeepBut.set_|apply keep_drewN|apply keep_drew|apply keep_alloc|refine keep_far ?_ GW169.out _|refine keep_far ?_ GW181.out _)|exact HK.out)) hk (.inl rfl));replace HB:=A0_ (hb);replace HI0:=A0_ (hi);(try clear hb);(try clear hb2);(try clear hk);(try clear hi))|((with_reducible refine gate_dst (N:=83) rfl ?_);refine Kd.N_lit k26 _ 26 ?hg (N':=83) ?hd (xs:=([]:List (S26))) (inner:= []) (ok:=(fun k_=>(w.heap.size≤k_)∧some k_≠(.slice Ao164 t176.length co164:Value).ownBlock∧k_≠gb169∧k_≠gb181∧k_≠g)) (okp:=(fun k_=>(w.heap.size≤k_)∧some k_≠(.slice Ao164 t176.length co164:Value).ownBlock∧k_≠gb169∧k_≠gb181∧k_≠g)) ?hr ?hp (fun _ hk=>hk) ((show ∀ k_,w165.heap.size≤k_→(fun k_=>(w.heap.size≤k_)∧some k_≠(.slice Ao164 t176.length co164:Value).ownBlock∧k_≠gb169∧k_≠gb181∧k_≠g) k_ from fun k_ hk=>⟨(Nat.le_trans (keep_size (w:=w) (g:=g) (row:=none) HK.out) hk),Kd.fresh' (Kd.N_lt HO178.out) k_ hk,Kd.freshB (g:=gb169) (o:= .cells #[.string (⟨#[]⟩:ByteArray), .string (⟨#[]⟩:ByteArray), .bool false, .slice none 0 0] 26 (0,0)) BK169.out k_ hk,Kd.freshB (g:=gb181) (o:= .cells #[.string t173, .string t174, .bool t175, .slice Ao164 t176.length co164] 26 (0,0)) BK181.out k_ hk,IsS104.fresh HI0.out k_ hk⟩) _ (Nat.le_refl _)) (Below.refl _ _) (Nat.le_refl _) (by simp) ?_;(case hd=>rfl);(case hg=>rfl);(case hr=>first|(go_simp;done)|(go_simp;rfl));(case hp=>exact (Reps.none _ _));intro v235 w166 ho167 hb hg_ hnew_;clear hg_ hnew_;(first|rw [← Ny234.out] at ho167|(simp only [Int.reduceToNat] at ho167;rw [← Ny234.out] at ho167));replace HO178:=A0_ (Kd.N_elder' HO178.out (Kd.N_base ho167) hb);have HO236:=A0_ (Kd.N_lower ho167 (keep_size (w:=w) (row:=none) HK.out));replace HI0:=A0_ (IsS104.below HI0.out hb);replace BK169:=A0_ (blk_below BK169.out hb);replace BK181:=A0_ (blk_below BK181.out hb);replace HK:=A0_ (KeepBut.trans HK.out (KeepBut.of_below hb g none) (.inl rfl));replace HB:=A0_ (below_step HB.out hb);clear hb ho167))
         go_loopg [7,8] k (fun kq v7 v8 w'=> ∃ (x7_1:List (S26)) (x8_1:Int) (x1001_1:Int) (x1002_1:Int),v8= .int .i64 x8_1∧Aside0 (spec_l01DrawAny.l2 kq x7_1 x8_1 s0_0 x1001_1 x1002_1=some (r1,r2,r3,r4,r5,r6))∧Aside0 (kq≤k)∧Aside0 (Kd.N k26 26 w' w.heap.size (fun k_=>(w.heap.size≤k_)∧some k_≠((.slice Ao164 t176.length co164):Value).ownBlock∧k_≠gb169∧k_≠gb181∧k_≠g) v7 x7_1)∧Aside0 (Kd.N k26 26 w' w.heap.size (fun k_=>(w.heap.size≤k_)∧some k_≠(v7:Value).ownBlock∧k_≠gb169∧k_≠gb181∧k_≠g) (.slice Ao164 t176.length co164) t176)∧Aside0 (w'.heap[gb169]?= some (.cells #[.string (⟨#[]⟩:ByteArray), .string (⟨#[]⟩:ByteArray), .bool false,(.slice none 0 0)] 26 (0,0)))∧Aside0 (w'.heap[gb181]?= some (.cells #[.string t173, .string t174, .bool t175,(.slice Ao164 t176.length co164)] 26 (0,0)))∧Aside0 (IsS104 w0 w' g s0_0 x1001_1 x1002_1)∧Aside0 (KeepBut w w' g none)∧Aside0 (Below w0.heap.size w0 w'))
         case atStart=>exact ⟨(y234),(0),(t183),(t184),(by first|rfl|(simp;done)|(simp [*];done)|(simp [bne];done)|(simp [bne, *];done)),H',⟨Nat.le_refl _⟩,⟨by (with_reducible repeat (first|apply Kd.N_alloc|apply Kd.N_drewN|apply Kd.N_drew));exact HO236.out⟩,⟨by (with_reducible repeat (first|apply Kd.N_alloc|apply Kd.N_drewN|apply Kd.N_drew));exact Kd.N_mono HO178.out (fun _ hk=>⟨hk.1.1.1,⟨hk.2,⟨hk.1.1.2.1,⟨hk.1.2,hk.1.1.2.2⟩⟩⟩⟩)⟩,⟨by (with_reducible repeat (first|refine blk_drewN ?_ _|refine blk_drew ?_|refine blk_alloc ?_ _));exact BK169.out⟩,⟨by (with_reducible repeat (first|refine blk_drewN ?_ _|refine blk_drew ?_|refine blk_alloc ?_ _));exact BK181.out⟩,⟨by repeat (first|(with_reducible first|exact HI0.out|apply IsS104.alloc|apply IsS104.drewN|apply IsS104.drew|apply IsS104.set_1|apply IsS104.set_2|refine IsS104.far ?_ NB0_169.out _|refine IsS104.far ?_ NB0_181.out _)|exact HI0.out)⟩,⟨by repeat (first|(with_reducible first|exact HK.out|apply KeepBut.set_|apply keep_drewN|apply keep_drew|apply keep_alloc|refine keep_far ?_ GW169.out _|refine keep_far ?_ GW181.out _)|exact HK.out)⟩,⟨by repeat (first|(with_reducible first|exact HB.out|apply below_alloc|apply pw_below_drewN|apply below_drew1|refine below_set ?_ (IsS104.ge HI0.out)|refine below_set ?_ GE169.out|refine below_set ?_ GE181.out)|exact HB.out)⟩⟩
         case round=>
          clear H'
          try clear c1
          try clear p1
          try clear q1
          try clear hx1
          try clear hcv1
          try clear c2
          try clear p2
          try clear c3
          try clear c4
          try clear c5
          try clear c5b0
          try clear c5b1
          try clear c6
          try clear p6
          try clear c7
          try clear c7b0
          try clear c8
          try clear c8b0
          try clear c9
          try clear c10
          try clear c11
          try clear c12
          try clear c13
          try clear c14
          try clear c15
          try clear hcv15
          try clear c16
          try clear p19
          try clear q19
          try clear hx19
          try clear c23
          try clear c25
          try clear c25b0
          try clear c25b1
          try clear c30
          try clear c31
          try clear c36
          try clear c37
          try clear c38
          try clear c38b0
          try clear c38b1
          try clear c39
          try clear c39b0
          try clear c39b1
          try clear c39b2
          try clear c44
          try clear c45
          try clear c50
          try clear c52
          try clear c52b0
          try clear c52b1
          try clear c53
          try clear c58
          try clear c59
          try clear p64
          try clear c67
          try clear c69
          try clear c69b0
          try clear c69b1
          try clear c75
          try clear c76
          try clear c79
          try clear c82
          try clear c84
          try clear c84b0
          try clear c87
          try clear c88
          try clear c97
          try clear c98
          try clear c100
          try clear c103
          try clear c103b0
          try clear c103b1
          try clear c108
          try clear c109
          try clear c116
          try clear c116b0
          try clear c118
          try clear c127
          try clear c128
          try clear c130
          try clear c132
          try clear c132b0
          try clear c132b1
          try clear c135
          try clear c135b0
          try clear c135b1
          try clear c136
          try clear c136b0
          try clear c136b1
          try clear c142
          try clear c143
          try clear hcv150
          try clear c154
          try clear c156
          try clear c156b0
          try clear c156b1
          try clear c161
          try clear c162
          try clear hcz101_0
          try clear hcz101_1
          try clear hcz101_2
          try clear hcz101_3
          try clear hcz110_0
          try clear hcz110_1
          try clear hcz110_2
          try clear hcz110_3
          try clear hcz129_0
          try clear hcz129_1
          try clear hcz129_2
          try clear hcz129_3
          try clear hcz131_0
          try clear hcz131_1
          try clear hcz131_2
          try clear hcz131_3
          try clear hcz144_0
          try clear hcz144_1
          try clear hcz144_2
          try clear hcz144_3
          try clear hcz152_0
          try clear hcz152_1
          try clear hcz152_2
          try clear hcz152_3
          try clear hcz155_0
          try clear hcz155_1
          try clear hcz155_2
          try clear hcz155_3
          try clear hcz15_0
          try clear hcz15_1
          try clear hcz15_2
          try clear hcz15_3
          try clear hcz163_0
          try clear hcz163_1
          try clear hcz163_2
          try clear hcz163_3
          try clear hcz22_0
          try clear hcz22_1
          try clear hcz22_2
          try clear hcz22_3
          try clear hcz24_0
          try clear hcz24_1
          try clear hcz24_2
          try clear hcz24_3
          try clear hcz32_0
          try clear hcz32_1
          try clear hcz32_2
          try clear hcz32_3
          try clear hcz35_0
          try clear hcz35_1
          try clear hcz35_2
          try clear hcz35_3
          try clear hcz37_0
          try clear hcz37_1
          try clear hcz37_2
          try clear hcz37_3
          try clear hcz46_0
          try clear hcz46_1
          try clear hcz46_2
          try clear hcz46_3
          try clear hcz49_0
          try clear hcz49_1
          try clear hcz49_2
          try clear hcz49_3
          try clear hcz51_0
          try clear hcz51_1
          try clear hcz51_2
          try clear hcz51_3
          try clear hcz60_0
          try clear hcz60_1
          try clear hcz60_2
          try clear hcz60_3
          try clear hcz63_0
          try clear hcz63_1
          try clear hcz63_2
          try clear hcz63_3
          try clear hcz66_0
          try clear hcz66_1
          try clear hcz66_2
          try clear hcz66_3
          try clear hcz68_0
          try clear hcz68_1
          try clear hcz68_2
          try clear hcz68_3
          try clear hcz77_0
          try clear hcz77_1
          try clear hcz77_2
          try clear hcz77_3
          try clear hcz81_0
          try clear hcz81_1
          try clear hcz81_2
          try clear hcz81_3
          try clear hcz89_0
          try clear hcz89_1
          try clear hcz89_2
          try clear hcz89_3
          try clear hcz95_0
          try clear hcz95_1
          try clear hcz95_2
          try clear hcz95_3
          try clear hcz99_0
          try clear hcz99_1
          try clear hcz99_2
          try clear hcz99_3
          try clear hfz101_0
          try clear hfz101_1
          try clear hfz101_2
          try clear hfz101_3
          try clear hfz110_0
          try clear hfz110_1
          try clear hfz110_2
          try clear hfz110_3
          try clear hfz129_0
          try clear hfz129_1
          try clear hfz129_2
          try clear hfz129_3
          try clear hfz131_0
          try clear hfz131_1
          try clear hfz131_2
          try clear hfz131_3
          try clear hfz144_0
          try clear hfz144_1
          try clear hfz144_2
          try clear hfz144_3
          try clear hfz152_0
          try clear hfz152_1
          try clear hfz152_2
          try clear hfz152_3
          try clear hfz155_0
          try clear hfz155_1
          try clear hfz155_2
          try clear hfz155_3
          try clear hfz15_0
          try clear hfz15_1
          try clear hfz15_2
          try clear hfz15_3
          try clear hfz163_0
          try clear hfz163_1
          try clear hfz163_2
          try clear hfz163_3
          try clear hfz22_0
          try clear hfz22_1
          try clear hfz22_2
          try clear hfz22_3
          try clear hfz24_0
          try clear hfz24_1
          try clear hfz24_2
          try clear hfz24_3
          try clear hfz32_0
          try clear hfz32_1
          try clear hfz32_2
          try clear hfz32_3
          try clear hfz35_0
          try clear hfz35_1
          try clear hfz35_2
          try clear hfz35_3
          try clear hfz37_0
          try clear hfz37_1
          try clear hfz37_2
          try clear hfz37_3
          try clear hfz46_0
          try clear hfz46_1
          try clear hfz46_2
          try clear hfz46_3
          try clear hfz49_0
          try clear hfz49_1
          try clear hfz49_2
          try clear hfz49_3
          try clear hfz51_0
          try clear hfz51_1
          try clear hfz51_2
          try clear hfz51_3
          try clear hfz60_0
          try clear hfz60_1
          try clear hfz60_2
          try clear hfz60_3
          try clear hfz63_0
          try clear hfz63_1
          try clear hfz63_2
          try clear hfz63_3
          try clear hfz66_0
          try clear hfz66_1
          try clear hfz66_2
          try clear hfz66_3
          try clear hfz68_0
          try clear hfz68_1
          try clear hfz68_2
          try clear hfz68_3
          try clear hfz77_0
          try clear hfz77_1
          try clear hfz77_2
          try clear hfz77_3
          try clear hfz81_0
          try clear hfz81_1
          try clear hfz81_2
          try clear hfz81_3
          try clear hfz89_0
          try clear hfz89_1
          try clear hfz89_2
          try clear hfz89_3
          try clear hfz95_0
          try clear hfz95_1
          try clear hfz95_2
          try clear hfz95_3
          try clear hfz99_0
          try clear hfz99_1
          try clear hfz99_2
          try clear hfz99_3
          try clear hx191_0
          try clear p1
          try clear p19
          try clear p191
          try clear p2
          try clear p6
          try clear p64
          try clear q1
          try clear q19
          try clear q191
          obtain ⟨x7_1,x8_1,x1001_1,x1002_1,rfl,HA,HK1,HO_7,HO_182003,BK169,BK181,HI0,HK,HB⟩:=hrel
          cases gk with
          |zero=>exact absurd HA.out (by simp [spec_l01DrawAny.l2])
          |succ k1=>
           have H:=HA.out
           clear HA
           simp only [spec_l01DrawAny.l2] at H
           replace H:=Option.bind_eq_some_iff.mp H
           obtain ⟨⟨t237,t238,t239⟩,A1680,H⟩:=H
           replace H:(if x8_1 < (wrap64 (24 + t237)) then (if 200≤281474976710656 then ((spec_l01Leaf.f (⟨#[97,98,99]⟩:ByteArray) (strOfNums (List.replicate 200 0))).bind fun bt243=>(if x7_1.length < 2199023255552 then (spec_l01DrawAny.l2 k1 (x7_1 ++ [(⟨bt243.1,bt243.2.1,bt243.2.2.1,bt243.2.2.2⟩:S26)]) (wrap64 (x8_1 + 1)) s0_0 t238 t239) else (none))) else (none)) else ((spec_l01Node.f (⟨#[110]⟩:ByteArray) x7_1).bind fun _=>(some ((⟨#[110]⟩:ByteArray),(⟨#[]⟩:ByteArray),false,x7_1,t238,t239))))=some (r1,r2,r3,r4,r5,r6):=H
           have A168:=A0_ A1680
           clear A1680
           by_cases c169:x8_1 < (wrap64 (24 + t237))
           ·rw [if_pos c169] at H
            have c169b0:decide (x8_1 < (wrap64 (24 + t237)))=true:=decide_eq_true c169
            clear c169
            by_cases c170:200≤281474976710656
            ·rw [if_pos c170] at H
             have c170b0:=eq_true c170
             have c170b1:decide (200≤281474976710656)=true:=decide_eq_true c170
             clear c170
             obtain ⟨y240,hy240⟩: ∃ y_:List Int,y_=(List.replicate 200 0):=⟨_,rfl⟩
             replace H:((spec_l01Leaf.f (⟨#[97,98,99]⟩:ByteArray) (strOfNums y240)).bind fun bt243=>(if x7_1.length < 2199023255552 then (spec_l01DrawAny.l2 k1 (x7_1 ++ [(⟨bt243.1,bt243.2.1,bt243.2.2.1,bt243.2.2.2⟩:S26)]) (wrap64 (x8_1 + 1)) s0_0 t238 t239) else (none)))=some (r1,r2,r3,r4,r5,r6):=by first|(rw [hy240];with_reducible exact H)|(have H2_:=(Option.bind_some _ _).symm.trans H;rw [hy240];with_reducible exact H2_)|(have H2_:=(Option.bind_some _ _).symm.trans H;with_reducible exact H2_)|with_reducible exact H|(rw [hy240];exact H)|exact H
             have Ny240:=A0_ hy240
             clear hy240
             replace H:=Option.bind_eq_some_iff.mp H
             obtain ⟨⟨t243,t244,t245,t246⟩,A1710,H⟩:=H
             replace H:(if x7_1.length < 2199023255552 then (spec_l01DrawAny.l2 k1 (x7_1 ++ [(⟨t243,t244,t245,t246⟩:S26)]) (wrap64 (x8_1 + 1)) s0_0 t238 t239) else (none))=some (r1,r2,r3,r4,r5,r6):=H
             have A171:=A0_ A1710
             clear A1710
             by_cases c172:x7_1.length < 2199023255552
             ·rw [if_pos c172] at H
              have LMc172:=A0_ c172
              clear c172
              obtain ⟨y249,hy249⟩: ∃ y_:List (S26),y_=(x7_1 ++ [(⟨t243,t244,t245,t246⟩:S26)]):=⟨_,rfl⟩
              replace H:(spec_l01DrawAny.l2 k1 y249 (wrap64 (x8_1 + 1)) s0_0 t238 t239)=some (r1,r2,r3,r4,r5,r6):=by first|(rw [hy249];with_reducible exact H)|(have H2_:=(Option.bind_some _ _).symm.trans H;rw [hy249];with_reducible exact H2_)|(have H2_:=(Option.bind_some _ _).symm.trans H;with_reducible exact H2_)|with_reducible exact H|(rw [hy249];exact H)|exact H
              have Ny249:=A0_ hy249
              clear hy249
              have H':=A0_ H
              clear H
              go_wp2_with (first|((with_reducible refine gate_callee (f:=38) rfl ?_);refine goesL_ (some 86) rfl rfl Try.func38 (by kernel_rfl) rfl #[.pointer (some ⟨g,0,none⟩), .int .i64 3] rfl (by (try simp only [List.map_toArray,List.map_cons,List.map_nil]);first|done|rfl|(simp only [List.length_drop,List.length_take];rfl)) ?_;(with_reducible refine (spec_l01Cur_pick.calls g s0_0 x1001_1 x1002_1 3 t237 t238 t239 w0 _ ?side1 ?side2 A168.out).mono ?_);(case side1=>repeat (first|(with_reducible first|exact HI0.out|apply IsS104.alloc|apply IsS104.drewN|apply IsS104.drew|apply IsS104.set_1|apply IsS104.set_2|refine IsS104.far ?_ NB0_169.out _|refine IsS104.far ?_ NB0_181.out _)|exact HI0.out));(case side2=>repeat (first|(with_reducible first|exact HB.out|apply below_alloc|apply pw_below_drewN|apply below_drew1|refine below_set ?_ (IsS104.ge HI0.out)|refine below_set ?_ GE169.out|refine below_set ?_ GE181.out)|exact HB.out));rintro e w173 ⟨rfl,hi,hb,hk⟩;refine ⟨_,rfl, ?_⟩;replace HO_7:=A0_ (Kd.N_mono (Kd.N_keep (Kd.N_mono (ok:=fun k_=>(((w.heap.size≤k_))∧(some k_≠(.slice Ao164 t176.length co164:Value).ownBlock∧(k_≠gb169∧(k_≠gb181∧k_≠g))))) HO_7.out (fun k_ hk_=>(⟨hk_,(by first|exact hk_.2.2.2.2|(have hk0_:=hk_;revert hk0_;(try simp only [and_imp]);intros;(repeat' apply And.intro) <;> assumption))⟩:_∧k_≠g))) hk (fun _ h=>h.2)) (fun _ h=>h.1));replace HO_182003:=A0_ (Kd.N_mono (Kd.N_keep (Kd.N_mono (ok:=fun k_=>(((w.heap.size≤k_))∧(some k_≠(u7:Value).ownBlock∧(k_≠gb169∧(k_≠gb181∧k_≠g))))) HO_182003.out (fun k_ hk_=>(⟨hk_,(by first|exact hk_.2.2.2.2|(have hk0_:=hk_;revert hk0_;(try simp only [and_imp]);intros;(repeat' apply And.intro) <;> assumption))⟩:_∧k_≠g))) hk (fun _ h=>h.2)) (fun _ h=>h.1));replace BK169:=A0_ (KeepBut.blk hk BK169.out NB169_0.out (by simp));replace BK181:=A0_ (KeepBut.blk hk BK181.out NB181_0.out (by simp));replace HK:=A0_ (KeepBut.trans HK.out hk (.inl rfl));replace HB:=A0_ (hb);replace HI0:=A0_ (hi);(try clear hb);(try clear hb2);(try clear hk);(try clear hi))|((with_reducible refine gate_dst (N:=92) rfl ?_);refine Kd.R_make (Kd.int .u8) _ 5 rfl (N:=92) rfl 22 _ _ rfl 200 rfl rfl Try.underlying22 (.int .u8 0) 1 info5 rfl (by decide) (by omega) 0 (ok:=fun _=>True) (okp:=fun _=>True) rfl (fun _ hk=>hk) trivial (by omega) (by omega) (Below.refl _ _) (Nat.le_refl _) ?_;intro v241 w174 ho175 hb hg_ hnew_;clear hg_ hnew_;(first|rw [← Ny240.out] at ho175|(simp only [Int.reduceToNat] at ho175;rw [← Ny240.out] at ho175));replace HO_7:=A0_ (Kd.N_elder' HO_7.out (Kd.R_base ho175) hb);replace HO_182003:=A0_ (Kd.N_elder' HO_182003.out (Kd.R_base ho175) hb);have HO242:=A0_ (Kd.R_lower (Kd.R_newM (M:=fun k_=>(w.heap.size≤k_)) ho175 (keep_size (w:=w) (row:=none) HK.out) (fun k_ h_=>h_)) (keep_size (w:=w) (row:=none) HK.out));replace BK169:=A0_ (blk_below BK169.out hb);replace BK181:=A0_ (blk_below BK181.out hb);replace HI0:=A0_ (IsS104.below HI0.out hb);replace HK:=A0_ (KeepBut.trans HK.out (KeepBut.of_below hb g none) (.inl rfl));replace HB:=A0_ (below_step HB.out hb);clear hb ho175;have hcv176:=own_string (P:=Try.prog) Try.underlying22 Try.underlying5 Try.underlying9 (Kd.own_of_R HO242.out))|((with_reducible refine gate_callee (f:=79) rfl ?_);refine goesL_ (some 94) rfl rfl Try.func79 (by kernel_rfl) rfl #[.string (⟨#[97,98,99]⟩:ByteArray), .string (strOfNums y240)] rfl (by (try simp only [List.map_toArray,List.map_cons,List.map_nil]);first|done|rfl|(simp only [List.length_drop,List.length_take];rfl)) ?_;(with_reducible refine (spec_l01Leaf.calls (⟨#[97,98,99]⟩:ByteArray) (strOfNums y240) t243 t244 t245 t246 _ A171.out).mono ?_);rintro e w177 ⟨v247,rfl,ho0,hb⟩;refine ⟨_,rfl, ?_⟩;have HO248:=A0_ (Kd.N_lower (Kd.N_mono (ok':=fun k_=>(w.heap.size≤k_)∧some k_≠(u7:Value).ownBlock∧some k_≠(.slice Ao164 t176.length co164:Value).ownBlock∧some k_≠(v241:Value).ownBlock∧k_≠gb169∧k_≠gb181∧k_≠g) (Kd.R_N (Kd.R_bound ho0)) (fun k_ hk_=>⟨(Nat.le_trans (keep_size (w:=w) (row:=none) HK.out) hk_.2.1),(Kd.fresh' (Kd.N_lt HO_7.out) k_ hk_.2.1),(Kd.fresh' (Kd.N_lt HO_182003.out) k_ hk_.2.1),(Kd.fresh' (Kd.R_lt HO242.out) k_ hk_.2.1),(Kd.freshB BK169.out k_ hk_.2.1),(Kd.freshB BK181.out k_ hk_.2.1),(IsS104.fresh HI0.out k_ hk_.2.1)⟩)) (keep_size (w:=w) (row:=none) HK.out));replace HO_7:=A0_ (Kd.N_elder' HO_7.out (Kd.R_base ho0) hb);replace HO_182003:=A0_ (Kd.N_elder' HO_182003.out (Kd.R_base ho0) hb);replace HO242:=A0_ (Kd.R_below HO242.out hb);replace BK169:=A0_ (blk_below BK169.out hb);replace BK181:=A0_ (blk_below BK181.out hb);replace HI0:=A0_ (IsS104.below HI0.out hb);replace HK:=A0_ (KeepBut.trans HK.out (KeepBut.of_below hb g none) (.inl rfl));replace HB:=A0_ (below_step HB.out hb);(try clear hb);(try clear hb2);(try clear hk);(try clear hi);(try clear ho0);obtain ⟨Ao179,co179,eo179⟩:=Kd.N_slice HO248.out;subst eo179)|((with_reducible refine gate_builtin (b:= .append) (xs:= #[.tmp 91, .tmp 95]) rfl ?_);at_builtin;refine Kd.N_append k26 w.heap.size rfl (.tmp 91) (.tmp 95) 24 26 (.agg #[(.string ⟨#[]⟩),(.string ⟨#[]⟩),(.bool false),(.slice none 0 0)]) 64 rfl Try.underlying24 info26 rfl (by decide) (by omega) u7 x7_1 (⟨t243,t244,t245,t246⟩:S26) [.string t243, .string t244, .bool t245, .slice Ao179 t246.length co179] (fun k_=>(w.heap.size≤k_)∧some k_≠(.slice Ao164 t176.length co164:Value).ownBlock∧some k_≠(v241:Value).ownBlock∧k_≠gb169∧k_≠gb181∧k_≠g) (fun k_=>((fun k_=>(w.heap.size≤k_)∧some k_≠(.slice Ao164 t176.length co164:Value).ownBlock∧some k_≠(v241:Value).ownBlock∧k_≠gb169∧k_≠gb181∧k_≠g)) k_∧some k_≠(u7:Value).ownBlock) rfl rfl ?aP (fun _ hk=>hk) ?aF ?aO (Below.refl _ _) ?aS ?aL ?_;(case aP=>exact (k26_mkF _ _ (⟨t243,t244,t245,t246⟩:S26) (Kd.N_reads' (Kd.N_mono (ok':=(fun k_=>((fun k_=>(w.heap.size≤k_)∧some k_≠(.slice Ao164 t176.length co164:Value).ownBlock∧some k_≠(v241:Value).ownBlock∧k_≠gb169∧k_≠gb181∧k_≠g)) k_∧some k_≠(u7:Value).ownBlock)) (HO248.out) (fun k_ hk=>⟨⟨hk.1,⟨hk.2.2.1,⟨hk.2.2.2.1,⟨hk.2.2.2.2.1,⟨hk.2.2.2.2.2.1,hk.2.2.2.2.2.2⟩⟩⟩⟩⟩,hk.2.1⟩))).2.1 (Kd.N_F (Kd.N_mono (ok':=(fun k_=>((fun k_=>(w.heap.size≤k_)∧some k_≠(.slice Ao164 t176.length co164:Value).ownBlock∧some k_≠(v241:Value).ownBlock∧k_≠gb169∧k_≠gb181∧k_≠g)) k_∧some k_≠(u7:Value).ownBlock)) (HO248.out) (fun k_ hk=>⟨⟨hk.1,⟨hk.2.2.1,⟨hk.2.2.2.1,⟨hk.2.2.2.2.1,⟨hk.2.2.2.2.2.1,hk.2.2.2.2.2.2⟩⟩⟩⟩⟩,hk.2.1⟩)))));(case aF=>exact (fun k_ hk=>⟨(Nat.le_trans (keep_size (w:=w) (g:=g) (row:=none) HK.out) hk),Kd.fresh' (Kd.N_lt HO_182003.out) k_ hk,Kd.fresh' (Kd.R_lt HO242.out) k_ hk,Kd.freshB (g:=gb169) (o:= .cells #[.string (⟨#[]⟩:ByteArray), .string (⟨#[]⟩:ByteArray), .bool false, .slice none 0 0] 26 (0,0)) BK169.out k_ hk,Kd.freshB (g:=gb181) (o:= .cells #[.string t173, .string t174, .bool t175, .slice Ao164 t176.length co164] 26 (0,0)) BK181.out k_ hk,IsS104.fresh HI0.out k_ hk⟩));(case aO=>exact (Kd.N_mono HO_7.out (fun _ hk=>⟨hk.1.1.1,⟨hk.1.1.2.1,⟨hk.1.2,⟨hk.1.1.2.2.1,⟨hk.1.1.2.2.2.1,hk.1.1.2.2.2.2⟩⟩⟩⟩⟩)));(case aS=>exact (keep_size (w:=w) (g:=g) (row:=none) HK.out));(case aL=>have:=LMc172.out;omega);intro v250 w178 ho hb hg hat;rw [← Ny249.out] at ho;have n0_:=A0_ (Kd.N_afterv (ok:=(fun k_=>(w.heap.size≤k_)∧some k_≠(v241:Value).ownBlock∧some k_≠(.slice Ao179 t246.length co179:Value).ownBlock∧k_≠gb169∧k_≠gb181∧k_≠g)) (Kd.N_mono HO_182003.out (fun _ hk=>⟨⟨hk.1.1.1,⟨hk.1.2,⟨hk.2,⟨hk.1.1.2.2.1,⟨hk.1.1.2.2.2.1,hk.1.1.2.2.2.2⟩⟩⟩⟩⟩,hk.1.1.2.1⟩)) hg hat);have n1_:=A0_ (blk_grown BK169.out hg (Kd.N_away HO_7.out (fun _ hk=>hk.1.1.2.2.1)));have n2_:=A0_ (blk_grown BK181.out hg (Kd.N_away HO_7.out (fun _ hk=>hk.1.1.2.2.2.1)));have n3_:=A0_ (IsS104.grown HI0.out hg (IsS104.own_neN HI0.out HO_7.out (by decide)));have n4_:=A0_ (Kd.R_over' HO242.out (Kd.N_typed HO_7.out) (by decide) hg);have n5_:=A0_ (below_weaken HB.out HL.out hb);have n6_:=A0_ (KeepBut.trans HK.out (KeepBut.of_grown hg g) (Kd.N_base2 HO_7.out));have n7_:=A0_ (ho);clear HO_182003;clear BK169;clear BK181;clear HI0;clear HO242;clear HB;clear HK;clear HO_7;clear HO248;have HO_182003:=n0_;have BK169:=n1_;have BK181:=n2_;have HI0:=n3_;have HO242:=n4_;have HB:=n5_;have HK:=n6_;have HO251:=n7_;clear n0_ n1_ n2_ n3_ n4_ n5_ n6_ n7_;clear ho hb hg hat))
              go_roundg k1
              case measure=>have:=HK1.out;omega
              case rel=>exact ⟨(y249),(wrap64 (x8_1 + 1)),(t238),(t239),(by first|rfl|(simp;done)|(simp [*];done)|(simp [bne];done)|(simp [bne, *];done)),H',⟨by have:=HK1.out;omega⟩,⟨by (with_reducible repeat (first|apply Kd.N_alloc|apply Kd.N_drewN|apply Kd.N_drew));exact Kd.N_mono HO251.out (fun _ hk=>⟨hk.1,⟨hk.2.1,⟨hk.2.2.2.1,⟨hk.2.2.2.2.1,hk.2.2.2.2.2⟩⟩⟩⟩)⟩,⟨by (with_reducible repeat (first|apply Kd.N_alloc|apply Kd.N_drewN|apply Kd.N_drew));exact Kd.N_mono HO_182003.out (fun _ hk=>⟨hk.1.1,⟨hk.2,⟨hk.1.2.2.2.1,⟨hk.1.2.2.2.2.1,hk.1.2.2.2.2.2⟩⟩⟩⟩)⟩,⟨by (with_reducible repeat (first|refine blk_drewN ?_ _|refine blk_drew ?_|refine blk_alloc ?_ _));exact BK169.out⟩,⟨by (with_reducible repeat (first|refine blk_drewN ?_ _|refine blk_drew ?_|refine blk_alloc ?_ _));exact BK181.out⟩,⟨by repeat (first|(with_reducible first|exact HI0.out|apply IsS104.alloc|apply IsS104.drewN|apply IsS104.drew|apply IsS104.set_1|apply IsS104.set_2|refine IsS104.far ?_ NB0_169.out _|refine IsS104.far ?_ NB0_181.out _)|exact HI0.out)⟩,⟨by repeat (first|(with_reducible first|exact HK.out|apply KeepBut.set_|apply keep_drewN|apply keep_drew|apply keep_alloc|refine keep_far ?_ GW169.out _|refine keep_far ?_ GW181.out _)|exact HK.out)⟩,⟨by repeat (first|(with_reducible first|exact HB.out|apply below_alloc|apply pw_below_drewN|apply below_drew1|refine below_set ?_ (IsS104.ge HI0.out)|refine below_set ?_ GE169.out|refine below_set ?_ GE181.out)|exact HB.out)⟩⟩
             ·rw [if_neg c172] at H
              exact absurd H (by simp)
            ·rw [if_neg c170] at H
             exact absurd H (by simp)
           ·rw [if_neg c169] at H
            have c169b0:decide (x8_1 < (wrap64 (24 + t237)))=false:=decide_eq_false c169
            clear c169
            replace H:=Option.bind_eq_some_iff.mp H
            obtain ⟨_,A1800,H⟩:=H
            replace H:(some ((⟨#[110]⟩:ByteArray),(⟨#[]⟩:ByteArray),false,x7_1,t238,t239))=some (r1,r2,r3,r4,r5,r6):=H
            have A180:=A0_ A1800
            clear A1800
            simp only [Option.some.injEq,Prod.mk.injEq] at H
            obtain ⟨rfl,rfl,rfl,rfl,rfl,rfl⟩:=H
            go_wp2_with (first|((with_reducible refine gate_callee (f:=38) rfl ?_);refine goesL_ (some 86) rfl rfl Try.func38 (by kernel_rfl) rfl #[.pointer (some ⟨g,0,none⟩), .int .i64 3] rfl (by (try simp only [List.map_toArray,List.map_cons,List.map_nil]);first|done|rfl|(simp only [List.length_drop,List.length_take];rfl)) ?_;(with_reducible refine (spec_l01Cur_pick.calls g s0_0 x1001_1 x1002_1 3 t237 t238 t239 w0 _ ?side1 ?side2 A168.out).mono ?_);(case side1=>repeat (first|(with_reducible first|exact HI0.out|apply IsS104.alloc|apply IsS104.drewN|apply IsS104.drew|apply IsS104.set_1|apply IsS104.set_2|refine IsS104.far ?_ NB0_169.out _|refine IsS104.far ?_ NB0_181.out _)|exact HI0.out));(case side2=>repeat (first|(with_reducible first|exact HB.out|apply below_alloc|apply pw_below_drewN|apply below_drew1|refine below_set ?_ (IsS104.ge HI0.out)|refine below_set ?_ GE169.out|refine below_set ?_ GE181.out)|exact HB.out));rintro e w181 ⟨rfl,hi,hb,hk⟩;refine ⟨_,rfl, ?_⟩;replace HO_7:=A0_ (Kd.N_mono (Kd.N_keep (Kd.N_mono (ok:=fun k_=>(((w.heap.size≤k_))∧(some k_≠(.slice Ao164 t176.length co164:Value).ownBlock∧(k_≠gb169∧(k_≠gb181∧k_≠g))))) HO_7.out (fun k_ hk_=>(⟨hk_,(by first|exact hk_.2.2.2.2|(have hk0_:=hk_;revert hk0_;(try simp only [and_imp]);intros;(repeat' apply And.intro) <;> assumption))⟩:_∧k_≠g))) hk (fun _ h=>h.2)) (fun _ h=>h.1));replace HO_182003:=A0_ (Kd.N_mono (Kd.N_keep (Kd.N_mono (ok:=fun k_=>(((w.heap.size≤k_))∧(some k_≠(u7:Value).ownBlock∧(k_≠gb169∧(k_≠gb181∧k_≠g))))) HO_182003.out (fun k_ hk_=>(⟨hk_,(by first|exact hk_.2.2.2.2|(have hk0_:=hk_;revert hk0_;(try simp only [and_imp]);intros;(repeat' apply And.intro) <;> assumption))⟩:_∧k_≠g))) hk (fun _ h=>h.2)) (fun _ h=>h.1));replace BK169:=A0_ (KeepBut.blk hk BK169.out NB169_0.out (by simp));replace BK181:=A0_ (KeepBut.blk hk BK181.out NB181_0.out (by simp));replace HK:=A0_ (KeepBut.trans HK.out hk (.inl rfl));replace HB:=A0_ (hb);replace HI0:=A0_ (hi);(try clear hb);(try clear hb2);(try clear hk);(try clear hi);obtain ⟨Ao182,co182,eo182⟩:=Kd.N_slice HO_7.out;subst eo182)|((with_reducible refine gate_callee (f:=82) rfl ?_);refine goesL_ (some 98) rfl rfl Try.func82 (by kernel_rfl) rfl #[.string (⟨#[110]⟩:ByteArray), .slice Ao182 x7_1.length co182] rfl (by (try simp only [List.map_toArray,List.map_cons,List.map_nil]);first|done|rfl|(simp only [List.length_drop,List.length_take];rfl)) ?_;(with_reducible refine (spec_l01Node.calls (⟨#[110]⟩:ByteArray) _ _ x7_1 _ ?side1 ?side2 A180.out).mono ?_);(case side1=>repeat (first|exact (Kd.N_reads' HO_7.out).2.2|(with_reducible refine Kd.C_alloc ?_ _)|(with_reducible refine Kd.C_drewN ?_ _)|(with_reducible refine Kd.C_drew ?_)));(case side2=>exact (Kd.N_reads' HO_7.out).2.1);rintro e w183 ⟨rfl,hb⟩;refine ⟨_,rfl, ?_⟩;replace HO_7:=A0_ (Kd.N_below HO_7.out hb);replace HO_182003:=A0_ (Kd.N_below HO_182003.out hb);replace BK169:=A0_ (blk_below BK169.out hb);replace BK181:=A0_ (blk_below BK181.out hb);replace HI0:=A0_ (IsS104.below HI0.out hb);replace HK:=A0_ (KeepBut.trans HK.out (KeepBut.of_below hb g none) (.inl rfl));replace HB:=A0_ (below_step HB.out hb);(try clear hb);(try clear hb2);(try clear hk);(try clear hi);have hnb184:=NB181_169.out;have hnc184:=NB169_181.out;have hnb185:=NB181_0.out;have hnc185:=NB0_181.out;obtain ⟨hcz186_0,hcz186_1,hcz186_2,hcz186_3⟩:=bc4_ BK181.out;obtain ⟨hfz186_0,hfz186_1,hfz186_2,hfz186_3⟩:=bf4_ BK181.out;have hnb187:=NB169_0.out;have hnc187:=NB0_169.out;obtain ⟨hcz188_0,hcz188_1,hcz188_2,hcz188_3⟩:=bc4_ BK169.out;obtain ⟨hfz188_0,hfz188_1,hfz188_2,hfz188_3⟩:=bf4_ BK169.out))
            refine bodyPost_ret (results_cell_row rfl _ _ gb169 26 #[.string (⟨#[110]⟩:ByteArray), .string (⟨#[]⟩:ByteArray), .bool false, .slice Ao182 x7_1.length co182] (0,0) _ rfl (by (with_reducible repeat (first|refine blk_drewN ?_ _|refine blk_drew ?_|refine blk_alloc ?_ _));refine blk_put (cs:= #[.string (⟨#[110]⟩:ByteArray), .string (⟨#[]⟩:ByteArray), .bool false, .slice none 0 0]) ?_ 3 _ rfl;(with_reducible repeat (first|refine blk_drewN ?_ _|refine blk_drew ?_|refine blk_alloc ?_ _));refine blk_put (cs:= #[.string (⟨#[110]⟩:ByteArray), .string (⟨#[]⟩:ByteArray), .bool false, .slice none 0 0]) ?_ 2 _ rfl;(with_reducible repeat (first|refine blk_drewN ?_ _|refine blk_drew ?_|refine blk_alloc ?_ _));refine blk_put (cs:= #[.string (⟨#[110]⟩:ByteArray), .string (⟨#[]⟩:ByteArray), .bool false, .slice none 0 0]) ?_ 1 _ rfl;(with_reducible repeat (first|refine blk_drewN ?_ _|refine blk_drew ?_|refine blk_alloc ?_ _));refine blk_put (cs:= #[.string (⟨#[]⟩:ByteArray), .string (⟨#[]⟩:ByteArray), .bool false, .slice none 0 0]) ?_ 0 _ rfl;(with_reducible repeat (first|refine blk_drewN ?_ _|refine blk_drew ?_|refine blk_alloc ?_ _));refine blk_far ?_ NB169_181.out _;(with_reducible repeat (first|refine blk_drewN ?_ _|refine blk_drew ?_|refine blk_alloc ?_ _));refine blk_far ?_ NB169_181.out _;(with_reducible repeat (first|refine blk_drewN ?_ _|refine blk_drew ?_|refine blk_alloc ?_ _));refine blk_far ?_ NB169_181.out _;(with_reducible repeat (first|refine blk_drewN ?_ _|refine blk_drew ?_|refine blk_alloc ?_ _));refine blk_far ?_ NB169_181.out _;(with_reducible repeat (first|refine blk_drewN ?_ _|refine blk_drew ?_|refine blk_alloc ?_ _));exact BK169.out) Try.underlying26 rfl (by kernel_rfl)) rfl ?_
            exact ⟨_,by first|rfl|(simp [errW_none,errW_some] <;> rfl)|(simp [*,errW_none,errW_some] <;> rfl),by (with_reducible repeat (first|apply Kd.N_alloc|apply Kd.N_drewN|apply Kd.N_drew));exact Kd.N_mono (Kd.N_far (p:=⟨gb169,3,none⟩) (Kd.N_far (p:=⟨gb169,2,none⟩) (Kd.N_far (p:=⟨gb169,1,none⟩) (Kd.N_far (p:=⟨gb169,0,none⟩) (Kd.N_far (p:=⟨gb181,3,none⟩) (Kd.N_far (p:=⟨gb181,2,none⟩) (Kd.N_far (p:=⟨gb181,1,none⟩) (Kd.N_far (p:=⟨gb181,0,none⟩) (Kd.N_mono (Kd.N_mono HO_7.out (fun k_ hk=>(⟨hk,hk.2.2.2.1⟩:_∧k_≠gb181))) (fun k_ hk=>(⟨hk,hk.1.2.2.1⟩:_∧k_≠gb169))) (fun _ hk=>hk.1.2) (.string (⟨#[110]⟩:ByteArray))) (fun _ hk=>hk.1.2) (.string (⟨#[]⟩:ByteArray))) (fun _ hk=>hk.1.2) (.bool false)) (fun _ hk=>hk.1.2) (.slice Ao182 x7_1.length co182)) (fun _ hk=>hk.2) (.string (⟨#[110]⟩:ByteArray))) (fun _ hk=>hk.2) (.string (⟨#[]⟩:ByteArray))) (fun _ hk=>hk.2) (.bool false)) (fun _ hk=>hk.2) (.slice Ao182 x7_1.length co182)) (fun _ hk=>hk.1.1.1),by repeat (first|(with_reducible first|exact HI0.out|apply IsS104.alloc|apply IsS104.drewN|apply IsS104.drew|apply IsS104.set_1|apply IsS104.set_2|refine IsS104.far ?_ NB0_169.out _|refine IsS104.far ?_ NB0_181.out _)|exact HI0.out),by repeat (first|(with_reducible first|exact HB.out|apply below_alloc|apply pw_below_drewN|apply below_drew1|refine below_set ?_ (IsS104.ge HI0.out)|refine below_set ?_ GE169.out|refine below_set ?_ GE181.out)|exact HB.out),by repeat (first|(with_reducible first|exact HK.out|apply KeepBut.set_|apply keep_drewN|apply keep_drew|apply keep_alloc|refine keep_far ?_ GW169.out _|refine keep_far ?_ GW181.out _)|exact HK.out)⟩
        ·rw [if_neg c156] at H
         have c156b0:(t182 == 7)=false:=beq_eq_false_iff_ne.mpr c156
         have c156b1:(t182 != 7)=true:=bne_iff_ne.mpr c156
         simp only [Option.some.injEq,Prod.mk.injEq] at H
         obtain ⟨rfl,rfl,rfl,rfl,rfl,rfl⟩:=H
         go_enter Try.func39,Try.ntmps39
         go_wp2_with (first|((with_reducible refine gate_dst (N:=2) rfl ?_);refine box_event ?hg (N:=2) ?hd (cs:= #[.string (⟨#[]⟩:ByteArray), .string (⟨#[]⟩:ByteArray), .bool false, .slice none 0 0]) (t:=26) ?hr ?_;(case hd=>rfl);(case hg=>rfl);(case hr=>first|(go_simp;done)|(go_simp;rfl));intro gb169 hg w189 hbox hb;replace HB:=A0_ (below_step HB.out hb);have BK169:=A0_ (hbox);have GW169:=A0_ ((by rw [hg];exact (keep_size (w:=w) (row:=none) HK.out):w.heap.size≤gb169));have GE169:=A0_ ((Nat.le_trans HW0.out (by rw [hg];exact (keep_size (w:=w) (row:=none) HK.out):w.heap.size≤gb169):w0.heap.size≤gb169));replace HK:=A0_ (KeepBut.trans HK.out (KeepBut.of_below hb g none) (.inl rfl));have NB0_169:=A0_ ((by rw [hg];exact Nat.ne_of_lt (IsS104.lt (show IsS104 w0 _ g s0_0 s0_1 s0_2 from by repeat (first|(with_reducible first|exact HI0.out|apply IsS104.alloc|apply IsS104.drewN|apply IsS104.drew|apply IsS104.set_1|apply IsS104.set_2)|exact HI0.out))):g≠gb169));have NB169_0:=A0_ ((by rw [hg];exact Nat.ne_of_gt (IsS104.lt (show IsS104 w0 _ g s0_0 s0_1 s0_2 from by repeat (first|(with_reducible first|exact HI0.out|apply IsS104.alloc|apply IsS104.drewN|apply IsS104.drew|apply IsS104.set_1|apply IsS104.set_2)|exact HI0.out))):gb169≠g));replace HI0:=A0_ (IsS104.below HI0.out hb);clear hb hbox hg)|((with_reducible refine gate_callee (f:=84) rfl ?_);refine goesL_ (some 11) rfl rfl Try.func84 (by kernel_rfl) rfl #[.pointer (some ⟨g,0,none⟩), .int .i64 5] rfl (by (try simp only [List.map_toArray,List.map_cons,List.map_nil]);first|done|rfl|(simp only [List.length_drop,List.length_take];rfl)) ?_;(with_reducible refine (spec_l01Cur_size.calls g s0_0 s0_1 s0_2 5 t170 t171 t172 w0 _ ?side1 ?side2 A2.out).mono ?_);(case side1=>repeat (first|(with_reducible first|exact HI0.out|apply IsS104.alloc|apply IsS104.drewN|apply IsS104.drew|apply IsS104.set_1|apply IsS104.set_2|refine IsS104.far ?_ NB0_169.out _)|exact HI0.out));(case side2=>repeat (first|(with_reducible first|exact HB.out|apply below_alloc|apply pw_below_drewN|apply below_drew1|refine below_set ?_ (IsS104.ge HI0.out)|refine below_set ?_ GE169.out)|exact HB.out));rintro e w190 ⟨rfl,hi,hb,hk⟩;refine ⟨_,rfl, ?_⟩;replace BK169:=A0_ (KeepBut.blk hk BK169.out NB169_0.out (by simp));replace HK:=A0_ (KeepBut.trans HK.out hk (.inl rfl));replace HB:=A0_ (hb);replace HI0:=A0_ (hi);(try clear hb);(try clear hb2);(try clear hk);(try clear hi))|((with_reducible refine gate_callee (f:=37) rfl ?_);refine goesL_ (some 13) rfl rfl Try.func37 (by kernel_rfl) rfl #[.pointer (some ⟨g,0,none⟩), .int .i64 (wrap64 (1 + t170))] rfl (by (try simp only [List.map_toArray,List.map_cons,List.map_nil]);first|done|rfl|(simp only [List.length_drop,List.length_take];rfl)) ?_;(with_reducible refine (spec_l01DrawTree.calls k g s0_0 t171 t172 (wrap64 (1 + t170)) t173 t174 t175 t176 t179 t180 w0 _ ?side1 ?side2 A3.out).mono ?_);(case side1=>repeat (first|(with_reducible first|exact HI0.out|apply IsS104.alloc|apply IsS104.drewN|apply IsS104.drew|apply IsS104.set_1|apply IsS104.set_2|refine IsS104.far ?_ NB0_169.out _)|exact HI0.out));(case side2=>repeat (first|(with_reducible first|exact HB.out|apply below_alloc|apply pw_below_drewN|apply below_drew1|refine below_set ?_ (IsS104.ge HI0.out)|refine below_set ?_ GE169.out)|exact HB.out));rintro e w191 ⟨v177,rfl,ho0,hi,hb,hk⟩;refine ⟨_,rfl, ?_⟩;have HO178:=A0_ (Kd.N_lower (Kd.N_mono (ok':=fun k_=>(w.heap.size≤k_)∧k_≠gb169∧k_≠g) (Kd.R_N (Kd.R_bound ho0)) (fun k_ hk_=>⟨(Nat.le_trans (keep_size (w:=w) (row:=none) HK.out) hk_.2.1),(Kd.freshB BK169.out k_ hk_.2.1),(IsS104.fresh HI0.out k_ hk_.2.1)⟩)) (keep_size (w:=w) (row:=none) HK.out));replace BK169:=A0_ (KeepBut.blk hk BK169.out NB169_0.out (by simp));replace HK:=A0_ (KeepBut.trans HK.out hk (.inl rfl));replace HB:=A0_ (hb);replace HI0:=A0_ (hi);(try clear hb);(try clear hb2);(try clear hk);(try clear hi);(try clear ho0))|((with_reducible refine gate_dst (N:=3) rfl ?_);refine box_event ?hg (N:=3) ?hd (cs:= #[.string (⟨#[]⟩:ByteArray), .string (⟨#[]⟩:ByteArray), .bool false, .slice none 0 0]) (t:=26) ?hr ?_;(case hd=>rfl);(case hg=>rfl);(case hr=>first|(go_simp;done)|(go_simp;rfl));intro gb181 hg w192 hbox hb;replace HO178:=A0_ (Kd.N_below (Kd.N_elderB HO178.out gb181 (Nat.le_of_eq hg.symm)) hb);replace HB:=A0_ (below_step HB.out hb);have BK181:=A0_ (hbox);have GW181:=A0_ ((by rw [hg];exact (keep_size (w:=w) (row:=none) HK.out):w.heap.size≤gb181));have GE181:=A0_ ((Nat.le_trans HW0.out (by rw [hg];exact (keep_size (w:=w) (row:=none) HK.out):w.heap.size≤gb181):w0.heap.size≤gb181));replace HK:=A0_ (KeepBut.trans HK.out (KeepBut.of_below hb g none) (.inl rfl));have NB169_181:=A0_ ((by rw [hg];exact Nat.ne_of_lt (blk_lt BK169.out):gb169≠gb181));have NB181_169:=A0_ ((by rw [hg];exact Nat.ne_of_gt (blk_lt BK169.out):gb181≠gb169));replace BK169:=A0_ (blk_below BK169.out hb);have NB0_181:=A0_ ((by rw [hg];exact Nat.ne_of_lt (IsS104.lt (show IsS104 w0 _ g s0_0 t179 t180 from by repeat (first|(with_reducible first|exact HI0.out|apply IsS104.alloc|apply IsS104.drewN|apply IsS104.drew|apply IsS104.set_1|apply IsS104.set_2|refine IsS104.far ?_ NB0_169.out _)|exact HI0.out))):g≠gb181));have NB181_0:=A0_ ((by rw [hg];exact Nat.ne_of_gt (IsS104.lt (show IsS104 w0 _ g s0_0 t179 t180 from by repeat (first|(with_reducible first|exact HI0.out|apply IsS104.alloc|apply IsS104.drewN|apply IsS104.drew|apply IsS104.set_1|apply IsS104.set_2|refine IsS104.far ?_ NB0_169.out _)|exact HI0.out))):gb181≠g));replace HI0:=A0_ (IsS104.below HI0.out hb);clear hb hbox hg;have hnb193:=NB181_169.out;have hnc193:=NB169_181.out;have hnb194:=NB181_0.out;have hnc194:=NB0_181.out;obtain ⟨hcz195_0,hcz195_1,hcz195_2,hcz195_3⟩:=bc4_ BK181.out;obtain ⟨hfz195_0,hfz195_1,hfz195_2,hfz195_3⟩:=bf4_ BK181.out;obtain ⟨Ao196,co196,eo196⟩:=Kd.N_slice HO178.out;subst eo196)|((with_reducible refine gate_callee (f:=38) rfl ?_);refine goesL_ (some 15) rfl rfl Try.func38 (by kernel_rfl) rfl #[.pointer (some ⟨g,0,none⟩), .int .i64 24] rfl (by (try simp only [List.map_toArray,List.map_cons,List.map_nil]);first|done|rfl|(simp only [List.length_drop,List.length_take];rfl)) ?_;(with_reducible refine (spec_l01Cur_pick.calls g s0_0 t179 t180 24 t182 t183 t184 w0 _ ?side1 ?side2 A4.out).mono ?_);(case side1=>repeat (first|(with_reducible first|exact HI0.out|apply IsS104.alloc|apply IsS104.drewN|apply IsS104.drew|apply IsS104.set_1|apply IsS104.set_2|refine IsS104.far ?_ NB0_169.out _|refine IsS104.far ?_ NB0_181.out _)|exact HI0.out));(case side2=>repeat (first|(with_reducible first|exact HB.out|apply below_alloc|apply pw_below_drewN|apply below_drew1|refine below_set ?_ (IsS104.ge HI0.out)|refine below_set ?_ GE169.out|refine below_set ?_ GE181.out)|exact HB.out));rintro e w197 ⟨rfl,hi,hb,hk⟩;refine ⟨_,rfl, ?_⟩;replace BK169:=A0_ (KeepBut.blk hk (g':=gb169) (o:= .cells #[.string (⟨#[]⟩:ByteArray), .string (⟨#[]⟩:ByteArray), .bool false, .slice none 0 0] 26 (0,0)) (by (with_reducible repeat (first|refine blk_drewN ?_ _|refine blk_drew ?_|refine blk_alloc ?_ _));refine blk_far ?_ NB169_181.out _;(with_reducible repeat (first|refine blk_drewN ?_ _|refine blk_drew ?_|refine blk_alloc ?_ _));refine blk_far ?_ NB169_181.out _;(with_reducible repeat (first|refine blk_drewN ?_ _|refine blk_drew ?_|refine blk_alloc ?_ _));refine blk_far ?_ NB169_181.out _;(with_reducible repeat (first|refine blk_drewN ?_ _|refine blk_drew ?_|refine blk_alloc ?_ _));refine blk_far ?_ NB169_181.out _;(with_reducible repeat (first|refine blk_drewN ?_ _|refine blk_drew ?_|refine blk_alloc ?_ _));exact BK169.out) NB169_0.out (by simp));replace HO178:=A0_ (Kd.N_mono (Kd.N_keep (Kd.N_mono (ok:=fun k_=>((((w.heap.size≤k_))∧(k_≠gb169∧k_≠g))∧k_≠gb181)) (Kd.N_mono (Kd.N_far (p:=⟨gb181,3,none⟩) (Kd.N_far (p:=⟨gb181,2,none⟩) (Kd.N_far (p:=⟨gb181,1,none⟩) (Kd.N_far (p:=⟨gb181,0,none⟩) (Kd.N_mono HO178.out (fun k_ hk=>(⟨hk,hk.2⟩:_∧k_≠gb181))) (fun _ hk=>hk.2) (.string t173)) (fun _ hk=>hk.2) (.string t174)) (fun _ hk=>hk.2) (.bool t175)) (fun _ hk=>hk.2) (.slice Ao196 t176.length co196)) (fun _ h_=>h_.1)) (fun k_ hk_=>(⟨hk_,(by first|exact hk_.1.2.2|(have hk0_:=hk_;revert hk0_;(try simp only [and_imp]);intros;(repeat' apply And.intro) <;> assumption))⟩:_∧k_≠g))) hk (fun _ h=>h.2)) (fun _ h=>h.1));replace BK181:=A0_ (KeepBut.blk hk (g':=gb181) (o:= .cells #[.string t173, .string t174, .bool t175, .slice Ao196 t176.length co196] 26 (0,0)) (by (with_reducible repeat (first|refine blk_drewN ?_ _|refine blk_drew ?_|refine blk_alloc ?_ _));refine blk_put (cs:= #[.string t173, .string t174, .bool t175, .slice none 0 0]) ?_ 3 _ rfl;(with_reducible repeat (first|refine blk_drewN ?_ _|refine blk_drew ?_|refine blk_alloc ?_ _));refine blk_put (cs:= #[.string t173, .string t174, .bool false, .slice none 0 0]) ?_ 2 _ rfl;(with_reducible repeat (first|refine blk_drewN ?_ _|refine blk_drew ?_|refine blk_alloc ?_ _));refine blk_put (cs:= #[.string t173, .string (⟨#[]⟩:ByteArray), .bool false, .slice none 0 0]) ?_ 1 _ rfl;(with_reducible repeat (first|refine blk_drewN ?_ _|refine blk_drew ?_|refine blk_alloc ?_ _));refine blk_put (cs:= #[.string (⟨#[]⟩:ByteArray), .string (⟨#[]⟩:ByteArray), .bool false, .slice none 0 0]) ?_ 0 _ rfl;(with_reducible repeat (first|refine blk_drewN ?_ _|refine blk_drew ?_|refine blk_alloc ?_ _));exact BK181.out) NB181_0.out (by simp));replace HK:=A0_ (KeepBut.trans (by repeat (first|(with_reducible first|exact HK.out|apply KeepBut.set_|apply keep_drewN|apply keep_drew|apply keep_alloc|refine keep_far ?_ GW169.out _|refine keep_far ?_ GW181.out _)|exact HK.out)) hk (.inl rfl));replace HB:=A0_ (hb);replace HI0:=A0_ (hi);(try clear hb);(try clear hb2);(try clear hk);(try clear hi);obtain ⟨hcz198_0,hcz198_1,hcz198_2,hcz198_3⟩:=bc4_ BK181.out;obtain ⟨hfz198_0,hfz198_1,hfz198_2,hfz198_3⟩:=bf4_ BK181.out;have hnb199:=NB169_0.out;have hnc199:=NB0_169.out;obtain ⟨hcz200_0,hcz200_1,hcz200_2,hcz200_3⟩:=bc4_ BK169.out;obtain ⟨hfz200_0,hfz200_1,hfz200_2,hfz200_3⟩:=bf4_ BK169.out))
         refine bodyPost_ret (results_cell_row rfl _ _ gb169 26 #[.string t173, .string t174, .bool t175, .slice Ao196 t176.length co196] (0,0) _ rfl (by (with_reducible repeat (first|refine blk_drewN ?_ _|refine blk_drew ?_|refine blk_alloc ?_ _));refine blk_put (cs:= #[.string t173, .string t174, .bool t175, .slice none 0 0]) ?_ 3 _ rfl;(with_reducible repeat (first|refine blk_drewN ?_ _|refine blk_drew ?_|refine blk_alloc ?_ _));refine blk_put (cs:= #[.string t173, .string t174, .bool false, .slice none 0 0]) ?_ 2 _ rfl;(with_reducible repeat (first|refine blk_drewN ?_ _|refine blk_drew ?_|refine blk_alloc ?_ _));refine blk_put (cs:= #[.string t173, .string (⟨#[]⟩:ByteArray), .bool false, .slice none 0 0]) ?_ 1 _ rfl;(with_reducible repeat (first|refine blk_drewN ?_ _|refine blk_drew ?_|refine blk_alloc ?_ _));refine blk_put (cs:= #[.string (⟨#[]⟩:ByteArray), .string (⟨#[]⟩:ByteArray), .bool false, .slice none 0 0]) ?_ 0 _ rfl;(with_reducible repeat (first|refine blk_drewN ?_ _|refine blk_drew ?_|refine blk_alloc ?_ _));exact BK169.out) Try.underlying26 rfl (by kernel_rfl)) rfl ?_
         exact ⟨_,by first|rfl|(simp [errW_none,errW_some] <;> rfl)|(simp [*,errW_none,errW_some] <;> rfl),by (with_reducible repeat (first|apply Kd.N_alloc|apply Kd.N_drewN|apply Kd.N_drew));exact Kd.N_mono (Kd.N_far (p:=⟨gb169,3,none⟩) (Kd.N_far (p:=⟨gb169,2,none⟩) (Kd.N_far (p:=⟨gb169,1,none⟩) (Kd.N_far (p:=⟨gb169,0,none⟩) (Kd.N_mono HO178.out (fun k_ hk=>(⟨hk,hk.1.2.1⟩:_∧k_≠gb169))) (fun _ hk=>hk.2) (.string t173)) (fun _ hk=>hk.2) (.string t174)) (fun _ hk=>hk.2) (.bool t175)) (fun _ hk=>hk.2) (.slice Ao196 t176.length co196)) (fun _ hk=>hk.1.1.1),by repeat (first|(with_reducible first|exact HI0.out|apply IsS104.alloc|apply IsS104.drewN|apply IsS104.drew|apply IsS104.set_1|apply IsS104.set_2|refine IsS104.far ?_ NB0_169.out _|refine IsS104.far ?_ NB0_181.out _)|exact HI0.out),by repeat (first|(with_reducible first|exact HB.out|apply below_alloc|apply pw_below_drewN|apply below_drew1|refine below_set ?_ (IsS104.ge HI0.out)|refine below_set ?_ GE169.out|refine below_set ?_ GE181.out)|exact HB.out),by repeat (first|(with_reducible first|exact HK.out|apply KeepBut.set_|apply keep_drewN|apply keep_drew|apply keep_alloc|refine keep_far ?_ GW169.out _|refine keep_far ?_ GW181.out _)|exact HK.out)⟩
end Go.Proofs.Ytakpkmkjhndpjaa.Q
end
section
namespace Go.Proofs.Ytakpkmkjhndpjaa.Q
open Go.RowKit Go.Proofs.YtakpkmkjhndpjaaW.PrintWords Go.Proofs.YtakpkmkjhndpjaaW.PrintLast Go.Proofs.YtakpkmkjhndpjaaW.PrintMore
attribute [local go_sem] max2_int min2_int max_two min_two max_three min_three max_four min_four
set_option linter.unusedVariables false
set_option linter.unusedSimpArgs false
mutual
def spec_l01DrawPath.j1:Nat→List Int→List Int→Int→Int→Option (List Int × Int × Int)
 |0,_,_,_,_=>none
 |k + 1,x5,x1000,x1001,x1002=>(spec_l01Cur_pick.f x1000 x1001 x1002 8).bind fun bt266=>(if bt266.1=0 then ((spec_l01Cur_pick.f x1000 bt266.2.1 bt266.2.2 3).bind fun bt269=>(if x5.length < 17592186044416 then (some ((x5 ++ [wrap64 (bt269.1 - 1)]),bt269.2.1,bt269.2.2)) else (none))) else (some (x5,bt266.2.1,bt266.2.2)))
def spec_l01DrawPath.l0:Nat→List Int→List Int→Int→Int→ByteArray→ByteArray→Bool→List (S26)→Option (List Int × Int × Int)
 |0,_,_,_,_,_,_,_,_=>none
 |k + 1,x5,x1000,x1001,x1002,x253000,x253001,x253002,x253003=>if (x253003.length:Int) > 0 then ((spec_l01Cur_pick.f x1000 x1001 x1002 4).bind fun bt256=>(if bt256.1 > 0 then ((spec_l01Cur_pick.f x1000 bt256.2.1 bt256.2.2 (x253003.length:Int)).bind fun bt259=>(if x5.length < 17592186044416 then (if 0≤bt259.1 then (if bt259.1 < (x253003.length:Int) then (spec_l01DrawPath.l0 k (x5 ++ [bt259.1]) x1000 bt259.2.1 bt259.2.2 ((rd_T26 x253003 bt259.1).f0) ((rd_T26 x253003 bt259.1).f1) ((rd_T26 x253003 bt259.1).f2) ((rd_T26 x253003 bt259.1).f3)) else (none)) else (none)) else (none))) else (spec_l01DrawPath.j1 k x5 x1000 bt256.2.1 bt256.2.2))) else (spec_l01DrawPath.j1 k x5 x1000 x1001 x1002)
end
def spec_l01DrawPath.f (k:Nat) (s0_0:List Int) (s0_1:Int) (s0_2:Int) (a1_0:ByteArray) (a1_1:ByteArray) (a1_2:Bool) (l1_3:List (S26)):Option (List Int × Int × Int):=spec_l01DrawPath.l0 k (([]:List Int)) s0_0 s0_1 s0_2 a1_0 a1_1 a1_2 l1_3
theorem spec_l01DrawPath.mono_l: ∀ k,(∀ y0 y1 y2 y3,LeO (spec_l01DrawPath.j1 k y0 y1 y2 y3) (spec_l01DrawPath.j1 (k + 1) y0 y1 y2 y3))∧(∀ y0 y1 y2 y3 y4 y5 y6 y7,LeO (spec_l01DrawPath.l0 k y0 y1 y2 y3 y4 y5 y6 y7) (spec_l01DrawPath.l0 (k + 1) y0 y1 y2 y3 y4 y5 y6 y7))
 |0=>⟨fun _ _ _ _ r h=>by simp [spec_l01DrawPath.j1] at h,fun _ _ _ _ _ _ _ _ r h=>by simp [spec_l01DrawPath.l0] at h⟩
 |k + 1=>by
  obtain ⟨ih0,ih1⟩:=spec_l01DrawPath.mono_l k
  refine ⟨?_, ?_⟩
  all_goals intros
  all_goals first|unfold spec_l01DrawPath.j1|unfold spec_l01DrawPath.l0
  all_goals repeat' first
   |(with_reducible exact ih0 _ _ _ _)
   |(with_reducible exact ih1 _ _ _ _ _ _ _ _)
   |(with_reducible exact LeO.refl _)
   |(with_reducible exact LeO.none _)
   |(with_reducible refine LeO.ite ?_ ?_)
   |(with_reducible refine LeO.bind ?_ (fun _=> ?_))
   |exact ih0 _ _ _ _
   |exact ih1 _ _ _ _ _ _ _ _
   |exact LeO.none _
   |refine LeO.ite ?_ ?_
   |refine LeO.bind ?_ (fun _=> ?_)
theorem spec_l01DrawPath.mono: ∀ a0 a1 a2 a3 a4 a5 a6 k,LeO (spec_l01DrawPath.f k a0 a1 a2 a3 a4 a5 a6) (spec_l01DrawPath.f (k + 1) a0 a1 a2 a3 a4 a5 a6):=by
 intro a0 a1 a2 a3 a4 a5 a6 k
 obtain ⟨ih0,ih1⟩:=spec_l01DrawPath.mono_l k
 unfold spec_l01DrawPath.f
 repeat' first
   |(with_reducible exact ih0 _ _ _ _)
   |(with_reducible exact ih1 _ _ _ _ _ _ _ _)
   |(with_reducible exact LeO.refl _)
   |(with_reducible exact LeO.none _)
   |(with_reducible refine LeO.ite ?_ ?_)
   |(with_reducible refine LeO.bind ?_ (fun _=> ?_))
   |exact ih0 _ _ _ _
   |exact ih1 _ _ _ _ _ _ _ _
   |exact LeO.none _
   |refine LeO.ite ?_ ?_
   |refine LeO.bind ?_ (fun _=> ?_)
set_option maxHeartbeats 8000000 in
set_option maxRecDepth 100000 in
theorem spec_l01DrawPath.calls (k:Nat) (g:Nat) (s0_0:List Int) (s0_1:Int) (s0_2:Int) (a1_0:ByteArray) (a1_1:ByteArray) (a1_2:Bool) (P1_3_:Nat→Prop) (A1_3:Option Addr) (c1_3:Nat) (l1_3:List (S26)) (r1:List Int) (r2:Int) (r3:Int) (w0 w:World) (hI:IsS104 w0 w g s0_0 s0_1 s0_2) (hB:Below w0.heap.size w0 w) (hs1_3:Kd.V k26 26 w w.heap.size (fun k_=>P1_3_ k_∧k_≠g) (.slice A1_3 l1_3.length c1_3) l1_3) (h:spec_l01DrawPath.f k s0_0 s0_1 s0_2 a1_0 a1_1 a1_2 l1_3=some (r1,r2,r3)):
  Calls Try.prog 40 #[.pointer (some ⟨g,0,none⟩), .agg #[.string a1_0, .string a1_1, .bool a1_2, .slice A1_3 l1_3.length c1_3]] w fun e w'=> ∃ v0_:Value,e= .returned (v0_)∧Kd.R (Kd.int .i64) 3 w' w.heap.size (fun k_=>(w.heap.size≤k_)) v0_ r1∧IsS104 w0 w' g s0_0 r2 r3∧Below w0.heap.size w0 w'∧KeepBut w w' g none:=by
 have hu26:=Try.underlying26
 have HO1_3:=A0_ (show Kd.V k26 26 w w.heap.size (fun k_=>(P1_3_ k_∨w.heap.size≤k_)∧k_≠g) (.slice A1_3 l1_3.length c1_3) l1_3 from Kd.V_mono hs1_3 (fun k_ hk=>⟨.inl hk.1,hk.2⟩))
 have HI0:=A0_ hI
 have HK:=A0_ (KeepBut.refl w g none)
 have HL:=A0_ hB.size
 clear hI
 have HW0:=A0_ hB.size
 have HB:=A0_ hB
 clear hB
 have H:(spec_l01DrawPath.l0 k (([]:List Int)) s0_0 s0_1 s0_2 a1_0 a1_1 a1_2 l1_3)=some (r1,r2,r3):=h
 clear h
 obtain ⟨y253,hy253⟩: ∃ y_:List Int,y_=(([]:List Int)):=⟨_,rfl⟩
 replace H:(spec_l01DrawPath.l0 k y253 s0_0 s0_1 s0_2 a1_0 a1_1 a1_2 l1_3)=some (r1,r2,r3):=by first|(rw [hy253];with_reducible exact H)|(have H2_:=(Option.bind_some _ _).symm.trans H;rw [hy253];with_reducible exact H2_)|(have H2_:=(Option.bind_some _ _).symm.trans H;with_reducible exact H2_)|with_reducible exact H|(rw [hy253];exact H)|exact H
 have Ny253:=A0_ hy253
 clear hy253
 have HC3:=A0_ H
 clear H
 go_enter Try.func40,Try.ntmps40
 go_upto_block 0 with (first|((with_reducible refine gate_dst (N:=3) rfl ?_);refine box_event ?hg (N:=3) ?hd (cs:= #[.string a1_0, .string a1_1, .bool a1_2, .slice A1_3 l1_3.length c1_3]) (t:=26) ?hr ?_;(case hd=>rfl);(case hg=>rfl);(case hr=>first|(go_simp;done)|(go_simp;rfl));intro gb252 hg w4 hbox hb;replace HO1_3:=A0_ (Kd.V_below (Kd.V_elderB HO1_3.out gb252 (Nat.le_of_eq hg.symm)) hb);replace HB:=A0_ (below_step HB.out hb);have BK252:=A0_ (hbox);have GW252:=A0_ ((by rw [hg];exact (keep_size (w:=w) (row:=none) HK.out):w.heap.size≤gb252));have GE252:=A0_ ((Nat.le_trans HW0.out (by rw [hg];exact (keep_size (w:=w) (row:=none) HK.out):w.heap.size≤gb252):w0.heap.size≤gb252));replace HK:=A0_ (KeepBut.trans HK.out (KeepBut.of_below hb g none) (.inl rfl));have NB0_252:=A0_ ((by rw [hg];exact Nat.ne_of_lt (IsS104.lt (show IsS104 w0 _ g s0_0 s0_1 s0_2 from by repeat (first|(with_reducible first|exact HI0.out|apply IsS104.alloc|apply IsS104.drewN|apply IsS104.drew|apply IsS104.set_1|apply IsS104.set_2)|exact HI0.out))):g≠gb252));have NB252_0:=A0_ ((by rw [hg];exact Nat.ne_of_gt (IsS104.lt (show IsS104 w0 _ g s0_0 s0_1 s0_2 from by repeat (first|(with_reducible first|exact HI0.out|apply IsS104.alloc|apply IsS104.drewN|apply IsS104.drew|apply IsS104.set_1|apply IsS104.set_2)|exact HI0.out))):gb252≠g));replace HI0:=A0_ (IsS104.below HI0.out hb);clear hb hbox hg)|((with_reducible refine gate_dst (N:=7) rfl ?_);refine Kd.R_lit (Kd.int .i64) _ 3 ?hg (N:=7) ?hd (xs:=([]:List Int)) (inner:= []) (ok:=fun _=>True) (okp:=fun _=>True) ?hr ?hp (fun _ hk=>hk) trivial (Below.refl _ _) (Nat.le_refl _) (by simp) ?_;(case hd=>rfl);(case hg=>rfl);(case hr=>first|(go_simp;done)|(go_simp;rfl));(case hp=>exact (Reps.none _ _));intro v254 w5 ho6 hb hg_ hnew_;clear hg_ hnew_;(first|rw [← Ny253.out] at ho6|(simp only [Int.reduceToNat] at ho6;rw [← Ny253.out] at ho6));replace HO1_3:=A0_ (Kd.V_elder' HO1_3.out (Kd.R_base ho6) hb);have HO255:=A0_ (Kd.R_lower (Kd.R_newM (M:=fun k_=>(w.heap.size≤k_)) ho6 (keep_size (w:=w) (row:=none) HK.out) (fun k_ h_=>h_)) (keep_size (w:=w) (row:=none) HK.out));replace HI0:=A0_ (IsS104.below HI0.out hb);replace BK252:=A0_ (blk_below BK252.out hb);replace HK:=A0_ (KeepBut.trans HK.out (KeepBut.of_below hb g none) (.inl rfl));replace HB:=A0_ (below_step HB.out hb);clear hb ho6))
 (try simp only [Act.put,List.setIfInBounds_toArray,List.set_cons_zero,List.set_cons_succ])
 go_cut [5] (fun v5 wc=> ∃ (kq:Nat) (x5_2:List Int) (x1001_2:Int) (x1002_2:Int) (x253000_2:ByteArray) (x253001_2:ByteArray) (x253002_2:Bool) (x253003_2:List (S26)) (u253003:Value),Aside0 (spec_l01DrawPath.j1 kq x5_2 s0_0 x1001_2 x1002_2=some (r1,r2,r3))∧Aside0 (kq≤k)∧Aside0 (Kd.R (Kd.int .i64) 3 wc w.heap.size (fun k_=>(w.heap.size≤k_)) v5 x5_2)∧Aside0 (Kd.V k26 26 wc w.heap.size (fun k_=>(P1_3_ k_∨w.heap.size≤k_)∧some k_≠(v5:Value).ownBlock∧k_≠gb252∧k_≠g) u253003 x253003_2)∧Aside0 (wc.heap[gb252]?= some (.cells #[.string x253000_2, .string x253001_2, .bool x253002_2,u253003] 26 (0,0)))∧Aside0 (IsS104 w0 wc g s0_0 x1001_2 x1002_2)∧Aside0 (KeepBut w wc g none)∧Aside0 (Below w0.heap.size w0 wc))
 case first=>
  have H:=HC3.out
  clear HC3
  have H':=A0_ H
  clear H
  go_wp2
  go_loopg [5] k (fun kq v5 w'=> ∃ (x5_1:List Int) (x1001_1:Int) (x1002_1:Int) (x253000_1:ByteArray) (x253001_1:ByteArray) (x253002_1:Bool) (x253003_1:List (S26)) (u253003:Value),Aside0 (spec_l01DrawPath.l0 kq x5_1 s0_0 x1001_1 x1002_1 x253000_1 x253001_1 x253002_1 x253003_1=some (r1,r2,r3))∧Aside0 (kq≤k)∧Aside0 (Kd.R (Kd.int .i64) 3 w' w.heap.size (fun k_=>(w.heap.size≤k_)) v5 x5_1)∧Aside0 (Kd.V k26 26 w' w.heap.size (fun k_=>(P1_3_ k_∨w.heap.size≤k_)∧some k_≠(v5:Value).ownBlock∧k_≠gb252∧k_≠g) u253003 x253003_1)∧Aside0 (w'.heap[gb252]?= some (.cells #[.string x253000_1, .string x253001_1, .bool x253002_1,u253003] 26 (0,0)))∧Aside0 (IsS104 w0 w' g s0_0 x1001_1 x1002_1)∧Aside0 (KeepBut w w' g none)∧Aside0 (Below w0.heap.size w0 w'))
  case atStart=>exact ⟨(y253),(s0_1),(s0_2),(a1_0),(a1_1),(a1_2),(l1_3),(.slice A1_3 l1_3.length c1_3),H',⟨Nat.le_refl _⟩,⟨by (with_reducible repeat (first|apply Kd.R_alloc|apply Kd.R_drewN|apply Kd.R_drew));exact Kd.R_mono HO255.out (fun _ hk=>hk.1)⟩,⟨by (with_reducible repeat (first|apply Kd.V_alloc|apply Kd.V_drewN|apply Kd.V_drew));exact Kd.V_mono HO1_3.out (fun _ hk=>⟨hk.1.1.1,⟨hk.2,⟨hk.1.2,hk.1.1.2⟩⟩⟩)⟩,⟨by (with_reducible repeat (first|refine blk_drewN ?_ _|refine blk_drew ?_|refine blk_alloc ?_ _));exact BK252.out⟩,⟨by repeat (first|(with_reducible first|exact HI0.out|apply IsS104.alloc|apply IsS104.drewN|apply IsS104.drew|apply IsS104.set_1|apply IsS104.set_2|refine IsS104.far ?_ NB0_252.out _)|exact HI0.out)⟩,⟨by repeat (first|(with_reducible first|exact HK.out|apply KeepBut.set_|apply keep_drewN|apply keep_drew|apply keep_alloc|refine keep_far ?_ GW252.out _)|exact HK.out)⟩,⟨by repeat (first|(with_reducible first|exact HB.out|apply below_alloc|apply pw_below_drewN|apply below_drew1|refine below_set ?_ (IsS104.ge HI0.out)|refine below_set ?_ GE252.out)|exact HB.out)⟩⟩
  case round=>
   clear H'
   try clear c1
   try clear p2
   try clear c4
   obtain ⟨x5_1,x1001_1,x1002_1,x253000_1,x253001_1,x253002_1,x253003_1,u253003,HA,HK1,HO_5,HO_253003,BK252,HI0,HK,HB⟩:=hrel
   cases gk with
   |zero=>exact absurd HA.out (by simp [spec_l01DrawPath.l0])
   |succ k1=>
    have H:=HA.out
    clear HA
    simp only [spec_l01DrawPath.l0] at H
    by_cases c7:(x253003_1.length:Int) > 0
    ·rw [if_pos c7] at H
     have c7b0:decide (0 < (x253003_1.length:Int))=true:=decide_eq_true c7
     have c7b1:decide (0 < x253003_1.length)=true:=decide_eq_true (by omega)
     clear c7
     (first|rw [c7b0] |(simp only [i64_w,i32_w];rw [c7b0])|skip)
     replace H:=Option.bind_eq_some_iff.mp H
     obtain ⟨⟨t256,t257,t258⟩,A80,H⟩:=H
     replace H:(if t256 > 0 then ((spec_l01Cur_pick.f s0_0 t257 t258 (x253003_1.length:Int)).bind fun bt259=>(if x5_1.length < 17592186044416 then (if 0≤bt259.1 then (if bt259.1 < (x253003_1.length:Int) then (spec_l01DrawPath.l0 k1 (x5_1 ++ [bt259.1]) s0_0 bt259.2.1 bt259.2.2 ((rd_T26 x253003_1 bt259.1).f0) ((rd_T26 x253003_1 bt259.1).f1) ((rd_T26 x253003_1 bt259.1).f2) ((rd_T26 x253003_1 bt259.1).f3)) else (none)) else (none)) else (none))) else (spec_l01DrawPath.j1 k1 x5_1 s0_0 t257 t258))=some (r1,r2,r3):=H
     have A8:=A0_ A80
     clear A80
     by_cases c9:t256 > 0
     ·rw [if_pos c9] at H
      have c9b0:decide (0 < t256)=true:=decide_eq_true c9
      clear c9
      replace H:=Option.bind_eq_some_iff.mp H
      obtain ⟨⟨t259,t260,t261⟩,A100,H⟩:=H
      replace H:(if x5_1.length < 17592186044416 then (if 0≤t259 then (if t259 < (x253003_1.length:Int) then (spec_l01DrawPath.l0 k1 (x5_1 ++ [t259]) s0_0 t260 t261 ((rd_T26 x253003_1 t259).f0) ((rd_T26 x253003_1 t259).f1) ((rd_T26 x253003_1 t259).f2) ((rd_T26 x253003_1 t259).f3)) else (none)) else (none)) else (none))=some (r1,r2,r3):=H
      have A10:=A0_ A100
      clear A100
      by_cases c11:x5_1.length < 17592186044416
      ·rw [if_pos c11] at H
       have LMc11:=A0_ c11
       clear c11
       obtain ⟨y262,hy262⟩: ∃ y_:List Int,y_=(x5_1 ++ [t259]):=⟨_,rfl⟩
       replace H:(if 0≤t259 then (if t259 < (x253003_1.length:Int) then (spec_l01DrawPath.l0 k1 y262 s0_0 t260 t261 ((rd_T26 x253003_1 t259).f0) ((rd_T26 x253003_1 t259).f1) ((rd_T26 x253003_1 t259).f2) ((rd_T26 x253003_1 t259).f3)) else (none)) else (none))=some (r1,r2,r3):=by first|(rw [hy262];with_reducible exact H)|(have H2_:=(Option.bind_some _ _).symm.trans H;rw [hy262];with_reducible exact H2_)|(have H2_:=(Option.bind_some _ _).symm.trans H;with_reducible exact H2_)|with_reducible exact H|(rw [hy262];exact H)|exact H
       have Ny262:=A0_ hy262
       clear hy262
       by_cases c12:0≤t259
       ·rw [if_pos c12] at H
        have c12b0:decide (0≤t259)=true:=decide_eq_true c12
        clear c12
        by_cases c13:t259 < (x253003_1.length:Int)
        ·rw [if_pos c13] at H
         have c13b0:decide (t259 < (x253003_1.length:Int))=true:=decide_eq_true c13
         clear c13
         have H':=A0_ H
         clear H
         have hnb14:=NB252_0.out
         have hnc14:=NB0_252.out
         obtain ⟨hcz15_0,hcz15_1,hcz15_2,hcz15_3⟩:=bc4_ BK252.out
         obtain ⟨hfz15_0,hfz15_1,hfz15_2,hfz15_3⟩:=bf4_ BK252.out
         obtain ⟨Ao16,co16,eo16⟩:=Kd.V_slice HO_253003.out
         subst eo16
         go_wp2_with (first|(go_at_call 38;(with_reducible refine (spec_l01Cur_pick.calls g s0_0 x1001_1 x1002_1 4 t256 t257 t258 w0 _ ?side1 ?side2 A8.out).mono ?_);(case side1=>repeat (first|(with_reducible first|exact HI0.out|apply IsS104.alloc|apply IsS104.drewN|apply IsS104.drew|apply IsS104.set_1|apply IsS104.set_2|refine IsS104.far ?_ NB0_252.out _)|exact HI0.out));(case side2=>repeat (first|(with_reducible first|exact HB.out|apply below_alloc|apply pw_below_drewN|apply below_drew1|refine below_set ?_ (IsS104.ge HI0.out)|refine below_set ?_ GE252.out)|exact HB.out));rintro e w17 ⟨rfl,hi,hb,hk⟩;replace HO_5:=A0_ (Kd.R_mono (Kd.R_keep (IsS104.apart (show IsS104 w0 _ g s0_0 x1001_1 x1002_1 from by repeat (first|(with_reducible first|exact HI0.out|apply IsS104.alloc|apply IsS104.drewN|apply IsS104.drew|apply IsS104.set_1|apply IsS104.set_2|refine IsS104.far ?_ NB0_252.out _)|exact HI0.out)) HO_5.out (by decide)) hk (fun _ h=>h.2)) (fun _ h=>h.1));replace HO_253003:=A0_ (Kd.V_mono (Kd.V_keep (Kd.V_mono (ok:=fun k_=>(((P1_3_ k_∨w.heap.size≤k_))∧(some k_≠(u5:Value).ownBlock∧(k_≠gb252∧k_≠g)))) HO_253003.out (fun k_ hk_=>(⟨hk_,(by first|exact hk_.2.2.2|(have hk0_:=hk_;revert hk0_;(try simp only [and_imp]);intros;(repeat' apply And.intro) <;> assumption))⟩:_∧k_≠g))) hk (fun _ h=>h.2)) (fun _ h=>h.1));replace BK252:=A0_ (KeepBut.blk hk BK252.out NB252_0.out (by simp));replace HK:=A0_ (KeepBut.trans HK.out hk (.inl rfl));replace HB:=A0_ (hb);replace HI0:=A0_ (hi);(try clear hb);(try clear hb2);(try clear hk);(try clear hi);obtain ⟨hcz18_0,hcz18_1,hcz18_2,hcz18_3⟩:=bc4_ BK252.out;obtain ⟨hfz18_0,hfz18_1,hfz18_2,hfz18_3⟩:=bf4_ BK252.out)|((with_reducible refine gate_callee (f:=38) rfl ?_);refine goesL_ (some 21) rfl rfl Try.func38 (by kernel_rfl) rfl #[.pointer (some ⟨g,0,none⟩), .int .i64 (x253003_1.length:Int)] rfl (by (try simp only [List.map_toArray,List.map_cons,List.map_nil]);first|done|rfl|(simp only [List.length_drop,List.length_take];rfl)) ?_;(with_reducible refine (spec_l01Cur_pick.calls g s0_0 t257 t258 (x253003_1.length:Int) t259 t260 t261 w0 _ ?side1 ?side2 A10.out).mono ?_);(case side1=>repeat (first|(with_reducible first|exact HI0.out|apply IsS104.alloc|apply IsS104.drewN|apply IsS104.drew|apply IsS104.set_1|apply IsS104.set_2|refine IsS104.far ?_ NB0_252.out _)|exact HI0.out));(case side2=>repeat (first|(with_reducible first|exact HB.out|apply below_alloc|apply pw_below_drewN|apply below_drew1|refine below_set ?_ (IsS104.ge HI0.out)|refine below_set ?_ GE252.out)|exact HB.out));rintro e w19 ⟨rfl,hi,hb,hk⟩;refine ⟨_,rfl, ?_⟩;replace HO_5:=A0_ (Kd.R_mono (Kd.R_keep (IsS104.apart (show IsS104 w0 _ g s0_0 t257 t258 from by repeat (first|(with_reducible first|exact HI0.out|apply IsS104.alloc|apply IsS104.drewN|apply IsS104.drew|apply IsS104.set_1|apply IsS104.set_2|refine IsS104.far ?_ NB0_252.out _)|exact HI0.out)) HO_5.out (by decide)) hk (fun _ h=>h.2)) (fun _ h=>h.1));replace HO_253003:=A0_ (Kd.V_mono (Kd.V_keep (Kd.V_mono (ok:=fun k_=>(((P1_3_ k_∨w.heap.size≤k_))∧(some k_≠(u5:Value).ownBlock∧(k_≠gb252∧k_≠g)))) HO_253003.out (fun k_ hk_=>(⟨hk_,(by first|exact hk_.2.2.2|(have hk0_:=hk_;revert hk0_;(try simp only [and_imp]);intros;(repeat' apply And.intro) <;> assumption))⟩:_∧k_≠g))) hk (fun _ h=>h.2)) (fun _ h=>h.1));replace BK252:=A0_ (KeepBut.blk hk BK252.out NB252_0.out (by simp));replace HK:=A0_ (KeepBut.trans HK.out hk (.inl rfl));replace HB:=A0_ (hb);replace HI0:=A0_ (hi);(try clear hb);(try clear hb2);(try clear hk);(try clear hi))|((with_reducible refine gate_builtin (b:= .append) (xs:= #[.tmp 22, .tmp 24]) rfl ?_);at_builtin;refine Kd.R_append (Kd.int .i64) w.heap.size rfl (.tmp 22) (.tmp 24) 27 3 (.int .i64 0) 8 rfl Try.underlying27 info3 rfl (by decide) (by omega) u5 x5_1 t259 [.int .i64 t259] (fun k_=>(w.heap.size≤k_)) (fun _=>False) rfl rfl ?aP (fun _ hk=>hk.elim) ?aF ?aO (Below.refl _ _) ?aS ?aL ?_;(case aP=>exact rfl);(case aF=>exact (fun k_ hk=>(Nat.le_trans (keep_size (w:=w) (g:=g) (row:=none) HK.out) hk)));(case aO=>exact HO_5.out);(case aS=>exact (keep_size (w:=w) (g:=g) (row:=none) HK.out));(case aL=>have:=LMc11.out;omega);intro v263 w20 ho hb hg hat;rw [← Ny262.out] at ho;have n0_:=A0_ (Kd.V_afterv (ok:=(fun k_=>(P1_3_ k_∨w.heap.size≤k_)∧k_≠gb252∧k_≠g)) (Kd.V_mono HO_253003.out (fun _ hk=>⟨⟨hk.1,⟨hk.2.2.1,hk.2.2.2⟩⟩,hk.2.1⟩)) hg hat);have n1_:=A0_ (blk_grown BK252.out hg (Kd.R_ne HO_5.out BK252.out (by decide)));have n2_:=A0_ (IsS104.grown HI0.out hg (IsS104.own_ne HI0.out HO_5.out (by decide)));have n3_:=A0_ (below_weaken HB.out HL.out hb);have n4_:=A0_ (KeepBut.trans HK.out (KeepBut.of_grown hg g) (Kd.R_base2 HO_5.out));have n5_:=A0_ (ho);clear HO_253003;clear BK252;clear HI0;clear HB;clear HK;clear HO_5;have HO_253003:=n0_;have BK252:=n1_;have HI0:=n2_;have HB:=n3_;have HK:=n4_;have HO264:=n5_;clear n0_ n1_ n2_ n3_ n4_ n5_;clear ho hb hg hat;obtain ⟨hcz21_0,hcz21_1,hcz21_2,hcz21_3⟩:=bc4_ BK252.out;obtain ⟨hfz21_0,hfz21_1,hfz21_2,hfz21_3⟩:=bf4_ BK252.out;have p265:0≤(t259:Int):=of_decide_eq_true (by first|(with_reducible assumption)|assumption);have q265:t259 < (x253003_1.length:Int):=of_decide_eq_true (by first|(with_reducible assumption)|assumption);obtain ⟨ad265,A265_3,c265_3,e265,hx265_0,hx265_1,hx265_2,hx265_3,hl265_3,hi265_3⟩:=at_T26 (Kd.V_reads' HO_253003.out).2.2 t259 p265 q265;cases e265;obtain ⟨ce265,hce265,hMe265,hcc265⟩:=Kd.V_get HO_253003.out z26 t259 p265 (by first|exact q265|exact of_decide_eq_true (by first|(with_reducible assumption)|assumption)|(have e_:=(Kd.V_reads' HO_253003.out).1;omega));obtain ⟨ua265_3,uc265_3,rfl,ul265_3,ge265_3⟩:=k26_openF hMe265;have hv265_3:=hcc265 3 _ rfl;rw [add_field _ _ 3 (by omega)] at hv265_3;replace hv265_3:=Option.some.inj (hv265_3.symm.trans hx265_3);injection hv265_3 with hva_ hvn_ hvc_;rw [hva_] at ge265_3;rw [hvc_] at ul265_3;have HL265_3:=A0_ (show Kd.V k26 26 _ w.heap.size _ _ ((rd_T26 x253003_1 t259).f3) from Kd.V_mk ul265_3 ge265_3);clear hva_ hvn_ hvc_ ge265_3 ul265_3;clear hcc265 hce265;have HR265_3:=A0_ hi265_3;have HC265_3:=A0_ hl265_3;clear hi265_3 hl265_3;replace p265:=eq_true p265;replace q265:=eq_true q265))
         go_roundg k1
         case measure=>have:=HK1.out;omega
         case rel=>exact ⟨(y262),(t260),(t261),((rd_T26 x253003_1 t259).f0),((rd_T26 x253003_1 t259).f1),((rd_T26 x253003_1 t259).f2),((rd_T26 x253003_1 t259).f3),(.slice A265_3 ((rd_T26 x253003_1 t259).f3).length c265_3),H',⟨by have:=HK1.out;omega⟩,⟨by (with_reducible repeat (first|apply Kd.R_alloc|apply Kd.R_drewN|apply Kd.R_drew));exact Kd.R_mono (Kd.R_far (p:=⟨gb252,3,none⟩) (Kd.R_far (p:=⟨gb252,2,none⟩) (Kd.R_far (p:=⟨gb252,1,none⟩) (Kd.R_far (p:=⟨gb252,0,none⟩) (Kd.R_types HO264.out BK252.out (by decide)) (fun _ hk=>hk.2) (.string ((rd_T26 x253003_1 t259).f0))) (fun _ hk=>hk.2) (.string ((rd_T26 x253003_1 t259).f1))) (fun _ hk=>hk.2) (.bool ((rd_T26 x253003_1 t259).f2))) (fun _ hk=>hk.2) (.slice A265_3 ((rd_T26 x253003_1 t259).f3).length c265_3)) (fun _ hk=>hk.1)⟩,⟨by (with_reducible repeat (first|apply Kd.V_alloc|apply Kd.V_drewN|apply Kd.V_drew));exact Kd.V_mono (Kd.V_far (p:=⟨gb252,3,none⟩) (Kd.V_far (p:=⟨gb252,2,none⟩) (Kd.V_far (p:=⟨gb252,1,none⟩) (Kd.V_far (p:=⟨gb252,0,none⟩) (Kd.V_mono HL265_3.out (fun k_ hk=>(⟨hk,hk.1.2.1⟩:_∧k_≠gb252))) (fun _ hk=>hk.2) (.string ((rd_T26 x253003_1 t259).f0))) (fun _ hk=>hk.2) (.string ((rd_T26 x253003_1 t259).f1))) (fun _ hk=>hk.2) (.bool ((rd_T26 x253003_1 t259).f2))) (fun _ hk=>hk.2) (.slice A265_3 ((rd_T26 x253003_1 t259).f3).length c265_3)) (fun _ hk=>⟨hk.1.1.1,⟨hk.1.2,⟨hk.1.1.2.1,hk.1.1.2.2⟩⟩⟩)⟩,⟨by (with_reducible repeat (first|refine blk_drewN ?_ _|refine blk_drew ?_|refine blk_alloc ?_ _));refine blk_put (cs:= #[.string ((rd_T26 x253003_1 t259).f0), .string ((rd_T26 x253003_1 t259).f1), .bool ((rd_T26 x253003_1 t259).f2), .slice (some ad265) x253003_1.length co16]) ?_ 3 _ rfl;(with_reducible repeat (first|refine blk_drewN ?_ _|refine blk_drew ?_|refine blk_alloc ?_ _));refine blk_put (cs:= #[.string ((rd_T26 x253003_1 t259).f0), .string ((rd_T26 x253003_1 t259).f1), .bool x253002_1, .slice (some ad265) x253003_1.length co16]) ?_ 2 _ rfl;(with_reducible repeat (first|refine blk_drewN ?_ _|refine blk_drew ?_|refine blk_alloc ?_ _));refine blk_put (cs:= #[.string ((rd_T26 x253003_1 t259).f0), .string x253001_1, .bool x253002_1, .slice (some ad265) x253003_1.length co16]) ?_ 1 _ rfl;(with_reducible repeat (first|refine blk_drewN ?_ _|refine blk_drew ?_|refine blk_alloc ?_ _));refine blk_put (cs:= #[.string x253000_1, .string x253001_1, .bool x253002_1, .slice (some ad265) x253003_1.length co16]) ?_ 0 _ rfl;(with_reducible repeat (first|refine blk_drewN ?_ _|refine blk_drew ?_|refine blk_alloc ?_ _));exact BK252.out⟩,⟨by repeat (first|(with_reducible first|exact HI0.out|apply IsS104.alloc|apply IsS104.drewN|apply IsS104.drew|apply IsS104.set_1|apply IsS104.set_2|refine IsS104.far ?_ NB0_252.out _)|exact HI0.out)⟩,⟨by repeat (first|(with_reducible first|exact HK.out|apply KeepBut.set_|apply keep_drewN|apply keep_drew|apply keep_alloc|refine keep_far ?_ GW252.out _)|exact HK.out)⟩,⟨by repeat (first|(with_reducible first|exact HB.out|apply below_alloc|apply pw_below_drewN|apply below_drew1|refine below_set ?_ (IsS104.ge HI0.out)|refine below_set ?_ GE252.out)|exact HB.out)⟩⟩
        ·rw [if_neg c13] at H
         exact absurd H (by simp)
       ·rw [if_neg c12] at H
        exact absurd H (by simp)
      ·rw [if_neg c11] at H
       exact absurd H (by simp)
     ·rw [if_neg c9] at H
      have c9b0:decide (0 < t256)=false:=decide_eq_false c9
      clear c9
      have H':=A0_ H
      clear H
      have hnb22:=NB252_0.out
      have hnc22:=NB0_252.out
      obtain ⟨hcz23_0,hcz23_1,hcz23_2,hcz23_3⟩:=bc4_ BK252.out
      obtain ⟨hfz23_0,hfz23_1,hfz23_2,hfz23_3⟩:=bf4_ BK252.out
      obtain ⟨Ao24,co24,eo24⟩:=Kd.V_slice HO_253003.out
      subst eo24
      go_wp2_with (first|(go_at_call 38;(with_reducible refine (spec_l01Cur_pick.calls g s0_0 x1001_1 x1002_1 4 t256 t257 t258 w0 _ ?side1 ?side2 A8.out).mono ?_);(case side1=>repeat (first|(with_reducible first|exact HI0.out|apply IsS104.alloc|apply IsS104.drewN|apply IsS104.drew|apply IsS104.set_1|apply IsS104.set_2|refine IsS104.far ?_ NB0_252.out _)|exact HI0.out));(case side2=>repeat (first|(with_reducible first|exact HB.out|apply below_alloc|apply pw_below_drewN|apply below_drew1|refine below_set ?_ (IsS104.ge HI0.out)|refine below_set ?_ GE252.out)|exact HB.out));rintro e w25 ⟨rfl,hi,hb,hk⟩;replace HO_5:=A0_ (Kd.R_mono (Kd.R_keep (IsS104.apart (show IsS104 w0 _ g s0_0 x1001_1 x1002_1 from by repeat (first|(with_reducible first|exact HI0.out|apply IsS104.alloc|apply IsS104.drewN|apply IsS104.drew|apply IsS104.set_1|apply IsS104.set_2|refine IsS104.far ?_ NB0_252.out _)|exact HI0.out)) HO_5.out (by decide)) hk (fun _ h=>h.2)) (fun _ h=>h.1));replace HO_253003:=A0_ (Kd.V_mono (Kd.V_keep (Kd.V_mono (ok:=fun k_=>(((P1_3_ k_∨w.heap.size≤k_))∧(some k_≠(u5:Value).ownBlock∧(k_≠gb252∧k_≠g)))) HO_253003.out (fun k_ hk_=>(⟨hk_,(by first|exact hk_.2.2.2|(have hk0_:=hk_;revert hk0_;(try simp only [and_imp]);intros;(repeat' apply And.intro) <;> assumption))⟩:_∧k_≠g))) hk (fun _ h=>h.2)) (fun _ h=>h.1));replace BK252:=A0_ (KeepBut.blk hk BK252.out NB252_0.out (by simp));replace HK:=A0_ (KeepBut.trans HK.out hk (.inl rfl));replace HB:=A0_ (hb);replace HI0:=A0_ (hi);(try clear hb);(try clear hb2);(try clear hk);(try clear hi)))
      go_meet
      case rel=>exact ⟨_,(x5_1),(t257),(t258),(x253000_1),(x253001_1),(x253002_1),(x253003_1),(.slice Ao24 x253003_1.length co24),H',⟨by have:=HK1.out;first|omega|exact Nat.le_refl _⟩,⟨by (with_reducible repeat (first|apply Kd.R_alloc|apply Kd.R_drewN|apply Kd.R_drew));exact HO_5.out⟩,⟨by (with_reducible repeat (first|apply Kd.V_alloc|apply Kd.V_drewN|apply Kd.V_drew));exact HO_253003.out⟩,⟨by (with_reducible repeat (first|refine blk_drewN ?_ _|refine blk_drew ?_|refine blk_alloc ?_ _));exact BK252.out⟩,⟨by repeat (first|(with_reducible first|exact HI0.out|apply IsS104.alloc|apply IsS104.drewN|apply IsS104.drew|apply IsS104.set_1|apply IsS104.set_2|refine IsS104.far ?_ NB0_252.out _)|exact HI0.out)⟩,⟨by repeat (first|(with_reducible first|exact HK.out|apply KeepBut.set_|apply keep_drewN|apply keep_drew|apply keep_alloc|refine keep_far ?_ GW252.out _)|exact HK.out)⟩,⟨by repeat (first|(with_reducible first|exact HB.out|apply below_alloc|apply pw_below_drewN|apply below_drew1|refine below_set ?_ (IsS104.ge HI0.out)|refine below_set ?_ GE252.out)|exact HB.out)⟩⟩
    ·rw [if_neg c7] at H
     have c7b0:decide (0 < (x253003_1.length:Int))=false:=decide_eq_false c7
     have c7b1:decide (0 < x253003_1.length)=false:=decide_eq_false (by omega)
     clear c7
     (first|rw [c7b0] |(simp only [i64_w,i32_w];rw [c7b0])|skip)
     have H':=A0_ H
     clear H
     have hnb26:=NB252_0.out
     have hnc26:=NB0_252.out
     obtain ⟨hcz27_0,hcz27_1,hcz27_2,hcz27_3⟩:=bc4_ BK252.out
     obtain ⟨hfz27_0,hfz27_1,hfz27_2,hfz27_3⟩:=bf4_ BK252.out
     obtain ⟨Ao28,co28,eo28⟩:=Kd.V_slice HO_253003.out
     subst eo28
     go_wp2
     go_meet
     case rel=>exact ⟨_,(x5_1),(x1001_1),(x1002_1),(x253000_1),(x253001_1),(x253002_1),(x253003_1),(.slice Ao28 x253003_1.length co28),H',⟨by have:=HK1.out;first|omega|exact Nat.le_refl _⟩,⟨by (with_reducible repeat (first|apply Kd.R_alloc|apply Kd.R_drewN|apply Kd.R_drew));exact HO_5.out⟩,⟨by (with_reducible repeat (first|apply Kd.V_alloc|apply Kd.V_drewN|apply Kd.V_drew));exact HO_253003.out⟩,⟨by (with_reducible repeat (first|refine blk_drewN ?_ _|refine blk_drew ?_|refine blk_alloc ?_ _));exact BK252.out⟩,⟨by repeat (first|(with_reducible first|exact HI0.out|apply IsS104.alloc|apply IsS104.drewN|apply IsS104.drew|apply IsS104.set_1|apply IsS104.set_2|refine IsS104.far ?_ NB0_252.out _)|exact HI0.out)⟩,⟨by repeat (first|(with_reducible first|exact HK.out|apply KeepBut.set_|apply keep_drewN|apply keep_drew|apply keep_alloc|refine keep_far ?_ GW252.out _)|exact HK.out)⟩,⟨by repeat (first|(with_reducible first|exact HB.out|apply below_alloc|apply pw_below_drewN|apply below_drew1|refine below_set ?_ (IsS104.ge HI0.out)|refine below_set ?_ GE252.out)|exact HB.out)⟩⟩
 case rest=>
  clear HC3
  try clear c1
  try clear c2
  try clear p2
  try clear q2
  try clear hx2
  try clear c3
  try clear c4
  try clear c7
  try clear c7b0
  try clear c7b1
  try clear c9
  try clear c9b0
  try clear c11
  try clear c12
  try clear c12b0
  try clear c13
  try clear c13b0
  try clear c14
  try clear c22
  try clear c26
  try clear p26
  try clear q26
  try clear hx26
  try clear hcz15_0
  try clear hcz15_1
  try clear hcz15_2
  try clear hcz15_3
  try clear hcz18_0
  try clear hcz18_1
  try clear hcz18_2
  try clear hcz18_3
  try clear hcz21_0
  try clear hcz21_1
  try clear hcz21_2
  try clear hcz21_3
  try clear hcz23_0
  try clear hcz23_1
  try clear hcz23_2
  try clear hcz23_3
  try clear hcz27_0
  try clear hcz27_1
  try clear hcz27_2
  try clear hcz27_3
  try clear hfz15_0
  try clear hfz15_1
  try clear hfz15_2
  try clear hfz15_3
  try clear hfz18_0
  try clear hfz18_1
  try clear hfz18_2
  try clear hfz18_3
  try clear hfz21_0
  try clear hfz21_1
  try clear hfz21_2
  try clear hfz21_3
  try clear hfz23_0
  try clear hfz23_1
  try clear hfz23_2
  try clear hfz23_3
  try clear hfz27_0
  try clear hfz27_1
  try clear hfz27_2
  try clear hfz27_3
  try clear hx265_0
  try clear hx265_1
  try clear hx265_2
  try clear hx265_3
  try clear p2
  try clear p265
  try clear q265
  obtain ⟨kq,x5_2,x1001_2,x1002_2,x253000_2,x253001_2,x253002_2,x253003_2,u253003,HA,HJ2,HO_5,HO_253003,BK252,HI0,HK,HB⟩:=hcut
  cases kq with
  |zero=>exact absurd HA.out (by simp [spec_l01DrawPath.j1])
  |succ kj2=>
   have H:=HA.out
   clear HA
   simp only [spec_l01DrawPath.j1] at H
   replace H:=Option.bind_eq_some_iff.mp H
   obtain ⟨⟨t266,t267,t268⟩,A290,H⟩:=H
   replace H:(if t266=0 then ((spec_l01Cur_pick.f s0_0 t267 t268 3).bind fun bt269=>(if x5_2.length < 17592186044416 then (some ((x5_2 ++ [wrap64 (bt269.1 - 1)]),bt269.2.1,bt269.2.2)) else (none))) else (some (x5_2,t267,t268)))=some (r1,r2,r3):=H
   have A29:=A0_ A290
   clear A290
   by_cases c30:t266=0
   ·rw [if_pos c30] at H
    have c30b0:(t266 == 0)=true:=beq_iff_eq.mpr c30
    have c30b1:(t266 != 0)=false:=bne_eq_false_iff_eq.mpr c30
    clear c30
    replace H:=Option.bind_eq_some_iff.mp H
    obtain ⟨⟨t269,t270,t271⟩,A310,H⟩:=H
    replace H:(if x5_2.length < 17592186044416 then (some ((x5_2 ++ [wrap64 (t269 - 1)]),t270,t271)) else (none))=some (r1,r2,r3):=H
    have A31:=A0_ A310
    clear A310
    by_cases c32:x5_2.length < 17592186044416
    ·rw [if_pos c32] at H
     have LMc32:=A0_ c32
     clear c32
     obtain ⟨y272,hy272⟩: ∃ y_:List Int,y_=(x5_2 ++ [wrap64 (t269 - 1)]):=⟨_,rfl⟩
     replace H:(some (y272,t270,t271))=some (r1,r2,r3):=by first|(rw [hy272];with_reducible exact H)|(have H2_:=(Option.bind_some _ _).symm.trans H;rw [hy272];with_reducible exact H2_)|(have H2_:=(Option.bind_some _ _).symm.trans H;with_reducible exact H2_)|with_reducible exact H|(rw [hy272];exact H)|exact H
     have Ny272:=A0_ hy272
     clear hy272
     simp only [Option.some.injEq,Prod.mk.injEq] at H
     obtain ⟨rfl,rfl,rfl⟩:=H
     go_wp2_with (first|((with_reducible refine gate_callee (f:=38) rfl ?_);refine goesL_ (some 32) rfl rfl Try.func38 (by kernel_rfl) rfl #[.pointer (some ⟨g,0,none⟩), .int .i64 8] rfl (by (try simp only [List.map_toArray,List.map_cons,List.map_nil]);first|done|rfl|(simp only [List.length_drop,List.length_take];rfl)) ?_;(with_reducible refine (spec_l01Cur_pick.calls g s0_0 x1001_2 x1002_2 8 t266 t267 t268 w0 _ ?side1 ?side2 A29.out).mono ?_);(case side1=>repeat (first|(with_reducible first|exact HI0.out|apply IsS104.alloc|apply IsS104.drewN|apply IsS104.drew|apply IsS104.set_1|apply IsS104.set_2|refine IsS104.far ?_ NB0_252.out _)|exact HI0.out));(case side2=>repeat (first|(with_reducible first|exact HB.out|apply below_alloc|apply pw_below_drewN|apply below_drew1|refine below_set ?_ (IsS104.ge HI0.out)|refine below_set ?_ GE252.out)|exact HB.out));rintro e w33 ⟨rfl,hi,hb,hk⟩;refine ⟨_,rfl, ?_⟩;replace HO_5:=A0_ (Kd.R_mono (Kd.R_keep (IsS104.apart (show IsS104 w0 _ g s0_0 x1001_2 x1002_2 from by repeat (first|(with_reducible first|exact HI0.out|apply IsS104.alloc|apply IsS104.drewN|apply IsS104.drew|apply IsS104.set_1|apply IsS104.set_2|refine IsS104.far ?_ NB0_252.out _)|exact HI0.out)) HO_5.out (by decide)) hk (fun _ h=>h.2)) (fun _ h=>h.1));replace HO_253003:=A0_ (Kd.V_mono (Kd.V_keep (Kd.V_mono (ok:=fun k_=>(((P1_3_ k_∨w.heap.size≤k_))∧(some k_≠(u5:Value).ownBlock∧(k_≠gb252∧k_≠g)))) HO_253003.out (fun k_ hk_=>(⟨hk_,(by first|exact hk_.2.2.2|(have hk0_:=hk_;revert hk0_;(try simp only [and_imp]);intros;(repeat' apply And.intro) <;> assumption))⟩:_∧k_≠g))) hk (fun _ h=>h.2)) (fun _ h=>h.1));replace BK252:=A0_ (KeepBut.blk hk BK252.out NB252_0.out (by simp));replace HK:=A0_ (KeepBut.trans HK.out hk (.inl rfl));replace HB:=A0_ (hb);replace HI0:=A0_ (hi);(try clear hb);(try clear hb2);(try clear hk);(try clear hi))|((with_reducible refine gate_callee (f:=38) rfl ?_);refine goesL_ (some 36) rfl rfl Try.func38 (by kernel_rfl) rfl #[.pointer (some ⟨g,0,none⟩), .int .i64 3] rfl (by (try simp only [List.map_toArray,List.map_cons,List.map_nil]);first|done|rfl|(simp only [List.length_drop,List.length_take];rfl)) ?_;(with_reducible refine (spec_l01Cur_pick.calls g s0_0 t267 t268 3 t269 t270 t271 w0 _ ?side1 ?side2 A31.out).mono ?_);(case side1=>repeat (first|(with_reducible first|exact HI0.out|apply IsS104.alloc|apply IsS104.drewN|apply IsS104.drew|apply IsS104.set_1|apply IsS104.set_2|refine IsS104.far ?_ NB0_252.out _)|exact HI0.out));(case side2=>repeat (first|(with_reducible first|exact HB.out|apply below_alloc|apply pw_below_drewN|apply below_drew1|refine below_set ?_ (IsS104.ge HI0.out)|refine below_set ?_ GE252.out)|exact HB.out));rintro e w34 ⟨rfl,hi,hb,hk⟩;refine ⟨_,rfl, ?_⟩;replace HO_5:=A0_ (Kd.R_mono (Kd.R_keep (IsS104.apart (show IsS104 w0 _ g s0_0 t267 t268 from by repeat (first|(with_reducible first|exact HI0.out|apply IsS104.alloc|apply IsS104.drewN|apply IsS104.drew|apply IsS104.set_1|apply IsS104.set_2|refine IsS104.far ?_ NB0_252.out _)|exact HI0.out)) HO_5.out (by decide)) hk (fun _ h=>h.2)) (fun _ h=>h.1));replace HO_253003:=A0_ (Kd.V_mono (Kd.V_keep (Kd.V_mono (ok:=fun k_=>(((P1_3_ k_∨w.heap.size≤k_))∧(some k_≠(u5:Value).ownBlock∧(k_≠gb252∧k_≠g)))) HO_253003.out (fun k_ hk_=>(⟨hk_,(by first|exact hk_.2.2.2|(have hk0_:=hk_;revert hk0_;(try simp only [and_imp]);intros;(repeat' apply And.intro) <;> assumption))⟩:_∧k_≠g))) hk (fun _ h=>h.2)) (fun _ h=>h.1));replace BK252:=A0_ (KeepBut.blk hk BK252.out NB252_0.out (by simp));replace HK:=A0_ (KeepBut.trans HK.out hk (.inl rfl));replace HB:=A0_ (hb);replace HI0:=A0_ (hi);(try clear hb);(try clear hb2);(try clear hk);(try clear hi))|((with_reducible refine gate_builtin (b:= .append) (xs:= #[.tmp 34, .tmp 38]) rfl ?_);at_builtin;refine Kd.R_append (Kd.int .i64) w.heap.size rfl (.tmp 34) (.tmp 38) 27 3 (.int .i64 0) 8 rfl Try.underlying27 info3 rfl (by decide) (by omega) u5 x5_2 (wrap64 (t269 - 1)) [.int .i64 (wrap64 (t269 - 1))] (fun k_=>(w.heap.size≤k_)) (fun _=>False) rfl rfl ?aP (fun _ hk=>hk.elim) ?aF ?aO (Below.refl _ _) ?aS ?aL ?_;(case aP=>exact rfl);(case aF=>exact (fun k_ hk=>(Nat.le_trans (keep_size (w:=w) (g:=g) (row:=none) HK.out) hk)));(case aO=>exact HO_5.out);(case aS=>exact (keep_size (w:=w) (g:=g) (row:=none) HK.out));(case aL=>have:=LMc32.out;omega);intro v273 w35 ho hb hg hat;rw [← Ny272.out] at ho;have n0_:=A0_ (Kd.V_afterv (ok:=(fun k_=>(P1_3_ k_∨w.heap.size≤k_)∧k_≠gb252∧k_≠g)) (Kd.V_mono HO_253003.out (fun _ hk=>⟨⟨hk.1,⟨hk.2.2.1,hk.2.2.2⟩⟩,hk.2.1⟩)) hg hat);have n1_:=A0_ (blk_grown BK252.out hg (Kd.R_ne HO_5.out BK252.out (by decide)));have n2_:=A0_ (IsS104.grown HI0.out hg (IsS104.own_ne HI0.out HO_5.out (by decide)));have n3_:=A0_ (below_weaken HB.out HL.out hb);have n4_:=A0_ (KeepBut.trans HK.out (KeepBut.of_grown hg g) (Kd.R_base2 HO_5.out));have n5_:=A0_ (ho);clear HO_253003;clear BK252;clear HI0;clear HB;clear HK;clear HO_5;have HO_253003:=n0_;have BK252:=n1_;have HI0:=n2_;have HB:=n3_;have HK:=n4_;have HO274:=n5_;clear n0_ n1_ n2_ n3_ n4_ n5_;clear ho hb hg hat))
     go_ret
     exact ⟨_,by first|rfl|(simp [errW_none,errW_some] <;> rfl)|(simp [*,errW_none,errW_some] <;> rfl),by (with_reducible repeat (first|apply Kd.R_alloc|apply Kd.R_drewN|apply Kd.R_drew));exact HO274.out,by repeat (first|(with_reducible first|exact HI0.out|apply IsS104.alloc|apply IsS104.drewN|apply IsS104.drew|apply IsS104.set_1|apply IsS104.set_2|refine IsS104.far ?_ NB0_252.out _)|exact HI0.out),by repeat (first|(with_reducible first|exact HB.out|apply below_alloc|apply pw_below_drewN|apply below_drew1|refine below_set ?_ (IsS104.ge HI0.out)|refine below_set ?_ GE252.out)|exact HB.out),by repeat (first|(with_reducible first|exact HK.out|apply KeepBut.set_|apply keep_drewN|apply keep_drew|apply keep_alloc|refine keep_far ?_ GW252.out _)|exact HK.out)⟩
    ·rw [if_neg c32] at H
     exact absurd H (by simp)
   ·rw [if_neg c30] at H
    have c30b0:(t266 == 0)=false:=beq_eq_false_iff_ne.mpr c30
    have c30b1:(t266 != 0)=true:=bne_iff_ne.mpr c30
    simp only [Option.some.injEq,Prod.mk.injEq] at H
    obtain ⟨rfl,rfl,rfl⟩:=H
    go_wp2_with (first|((with_reducible refine gate_callee (f:=38) rfl ?_);refine goesL_ (some 32) rfl rfl Try.func38 (by kernel_rfl) rfl #[.pointer (some ⟨g,0,none⟩), .int .i64 8] rfl (by (try simp only [List.map_toArray,List.map_cons,List.map_nil]);first|done|rfl|(simp only [List.length_drop,List.length_take];rfl)) ?_;(with_reducible refine (spec_l01Cur_pick.calls g s0_0 x1001_2 x1002_2 8 t266 t267 t268 w0 _ ?side1 ?side2 A29.out).mono ?_);(case side1=>repeat (first|(with_reducible first|exact HI0.out|apply IsS104.alloc|apply IsS104.drewN|apply IsS104.drew|apply IsS104.set_1|apply IsS104.set_2|refine IsS104.far ?_ NB0_252.out _)|exact HI0.out));(case side2=>repeat (first|(with_reducible first|exact HB.out|apply below_alloc|apply pw_below_drewN|apply below_drew1|refine below_set ?_ (IsS104.ge HI0.out)|refine below_set ?_ GE252.out)|exact HB.out));rintro e w36 ⟨rfl,hi,hb,hk⟩;refine ⟨_,rfl, ?_⟩;replace HO_5:=A0_ (Kd.R_mono (Kd.R_keep (IsS104.apart (show IsS104 w0 _ g s0_0 x1001_2 x1002_2 from by repeat (first|(with_reducible first|exact HI0.out|apply IsS104.alloc|apply IsS104.drewN|apply IsS104.drew|apply IsS104.set_1|apply IsS104.set_2|refine IsS104.far ?_ NB0_252.out _)|exact HI0.out)) HO_5.out (by decide)) hk (fun _ h=>h.2)) (fun _ h=>h.1));replace HO_253003:=A0_ (Kd.V_mono (Kd.V_keep (Kd.V_mono (ok:=fun k_=>(((P1_3_ k_∨w.heap.size≤k_))∧(some k_≠(u5:Value).ownBlock∧(k_≠gb252∧k_≠g)))) HO_253003.out (fun k_ hk_=>(⟨hk_,(by first|exact hk_.2.2.2|(have hk0_:=hk_;revert hk0_;(try simp only [and_imp]);intros;(repeat' apply And.intro) <;> assumption))⟩:_∧k_≠g))) hk (fun _ h=>h.2)) (fun _ h=>h.1));replace BK252:=A0_ (KeepBut.blk hk BK252.out NB252_0.out (by simp));replace HK:=A0_ (KeepBut.trans HK.out hk (.inl rfl));replace HB:=A0_ (hb);replace HI0:=A0_ (hi);(try clear hb);(try clear hb2);(try clear hk);(try clear hi)))
    go_ret
    exact ⟨_,by first|rfl|(simp [errW_none,errW_some] <;> rfl)|(simp [*,errW_none,errW_some] <;> rfl),by (with_reducible repeat (first|apply Kd.R_alloc|apply Kd.R_drewN|apply Kd.R_drew));exact HO_5.out,by repeat (first|(with_reducible first|exact HI0.out|apply IsS104.alloc|apply IsS104.drewN|apply IsS104.drew|apply IsS104.set_1|apply IsS104.set_2|refine IsS104.far ?_ NB0_252.out _)|exact HI0.out),by repeat (first|(with_reducible first|exact HB.out|apply below_alloc|apply pw_below_drewN|apply below_drew1|refine below_set ?_ (IsS104.ge HI0.out)|refine below_set ?_ GE252.out)|exact HB.out),by repeat (first|(with_reducible first|exact HK.out|apply KeepBut.set_|apply keep_drewN|apply keep_drew|apply keep_alloc|refine keep_far ?_ GW252.out _)|exact HK.out)⟩
end Go.Proofs.Ytakpkmkjhndpjaa.Q
end
