/- Texts of one claim laid one behind the other: plain functions that answer as the program's functions do, and the proofs that they do. No condition of its own. -/
import Derived.Test.YtakpkmkjhndpjaaZ4
section
namespace Go.Proofs.Ytakpkmkjhndpjaa.Pure
open Go.RowKit Go.Proofs.Ytakpkmkjhndpjaa.Q Go.Proofs.YtakpkmkjhndpjaaW.PrintWords Go.Proofs.YtakpkmkjhndpjaaW.PrintLast
def W {α:Type} (F:Nat→Option α) (P:α→Prop):Prop:= ∃ r,Ev F r∧P r
theorem W.pure {α:Type} {P:α→Prop} {r:α} (p:P r):W (fun _=>some r) P:=⟨r,Ev.pure r,p⟩
theorem W.mono {α:Type} {F:Nat→Option α} {P Q:α→Prop} (h:W F P) (q: ∀ a,P a→Q a):W F Q:=by
 obtain ⟨r,e,p⟩:=h
 exact ⟨r,e,q r p⟩
theorem W.bind {α β:Type} {F:Nat→Option α} {G:Nat→α→Option β} {P:α→Prop} {Q:β→Prop} (h:W F P) (g: ∀ a,P a→W (fun k=>G k a) Q):W (fun k=>(F k).bind (G k)) Q:=by
 obtain ⟨r,e,p⟩:=h
 obtain ⟨r2,e2,p2⟩:=g r p
 exact ⟨r2,Ev.bind e e2,p2⟩
theorem W.step {α:Type} {F G:Nat→Option α} {P:α→Prop} (e: ∀ k,F (k + 1)=G k) (h:W G P):W F P:=by
 obtain ⟨r,e2,p⟩:=h
 exact ⟨r,Ev.succ e2 e,p⟩
theorem W.cong {α:Type} {F G:Nat→Option α} {P:α→Prop} (e: ∀ k,F k=G k) (h:W G P):W F P:=by
 obtain ⟨r,e2,p⟩:=h
 exact ⟨r,Ev.congr e2 e,p⟩
theorem W.ite {α:Type} {c:Prop} [Decidable c] {F G:Nat→Option α} {P:α→Prop} (h1:c→W F P) (h2: ¬ c→W G P):W (fun k=>if c then F k else G k) P:=by
 by_cases h:c
 ·exact W.cong (fun k=>if_pos h) (h1 h)
 ·exact W.cong (fun k=>if_neg h) (h2 h)
set_option linter.unusedVariables false in
theorem W.yes {α:Type} {c:Prop} [Decidable c] {F G:Nat→Option α} {P:α→Prop} (h:c) (h1:W F P):W (fun k=>if c then F k else G k) P:=W.cong (fun k=>if_pos h) h1
set_option linter.unusedVariables false in
theorem W.no {α:Type} {c:Prop} [Decidable c] {F G:Nat→Option α} {P:α→Prop} (h: ¬ c) (h1:W G P):W (fun k=>if c then F k else G k) P:=W.cong (fun k=>if_neg h) h1
theorem W.bindc {α β:Type} {X:Option α} {G:Nat→α→Option β} {a:α} {Q:β→Prop} (h:X=some a) (g:W (fun k=>G k a) Q):W (fun k=>X.bind (G k)) Q:=by
 subst h
 exact g
theorem W.ev {α:Type} {F:Nat→Option α} {r:α} (h:W F (· =r)):Ev F r:=by
 obtain ⟨r',e,p⟩:=h
 subst p
 exact e
structure Cur (c:List Int) (a s:Int):Prop where
 hb: ∀ x∈c,0≤x∧x < 256
 hl:c.length≤1048576
 a0:0≤a
 a1:a≤c.length
 s0:0≤s
 s1:s < 2147483648
theorem rd_byte {c:List Int} (h: ∀ x∈c,0≤x∧x < 256) (i:Int):0≤rd c i∧rd c i < 256:=by
 unfold rd
 by_cases hi:i.toNat < c.length
 ·have e:c.getD i.toNat 0=c[i.toNat]:=by simp [List.getD,hi]
  rw [e]
  exact h _ (List.getElem_mem hi)
 ·have e:c.getD i.toNat 0=0:=by simp [List.getD,Nat.le_of_not_lt hi]
  rw [e]
  omega
theorem seed_next {s:Int} (h0:0≤s) (h1:s < 2147483648):0≤Int.tmod (wrap64 ((wrap64 (s * 1103515245)) + 12345)) 2147483648∧Int.tmod (wrap64 ((wrap64 (s * 1103515245)) + 12345)) 2147483648 < 2147483648:=by
 have e1:wrap64 (s * 1103515245)=s * 1103515245:=wrap_id (by omega) (by omega)
 have e2:wrap64 (s * 1103515245 + 12345)=s * 1103515245 + 12345:=wrap_id (by omega) (by omega)
 rw [e1,e2,Int.tmod_eq_emod_of_nonneg (by omega)]
 omega
theorem cur_byte {c:List Int} {a s:Int} (h:Cur c a s): ∃ r a' s',spec_l01Cur_byte.f c a s=some (r,a',s')∧Cur c a' s'∧0≤r∧r < 256:=by
 obtain ⟨hb,hl,a0,a1,s0,s1⟩:=h
 unfold spec_l01Cur_byte.f
 have w1:wrap64 (a + 1)=a + 1:=wrap_id (by omega) (by omega)
 have w2:wrap64 (a + 1 - 1)=a:=by rw [wrap_id (by omega) (by omega)];omega
 by_cases hc:a < (c.length:Int)
 ·rw [w1,w2,if_pos hc,if_pos a0,if_pos hc]
  have r1:=rd_byte hb a
  have w3:wrap64 (rd c a)=rd c a:=wrap_id (by omega) (by omega)
  rw [w3]
  exact ⟨_,_,_,rfl,⟨hb,hl,by omega,by omega,s0,s1⟩,r1.1,r1.2⟩
 ·rw [if_neg hc]
  have sn:=seed_next s0 s1
  by_cases hz:(c.length:Int)=0
  ·rw [if_pos hz]
   exact ⟨_,_,_,rfl,⟨hb,hl,a0,a1,sn.1,sn.2⟩,by omega,by omega⟩
  ·rw [if_neg hz]
   refine ⟨_,_,_,rfl,⟨hb,hl,a0,a1,sn.1,sn.2⟩, ?_, ?_⟩
   all_goals
    generalize Int.tmod (wrap64 ((wrap64 (s * 1103515245)) + 12345)) 2147483648=z at sn
    have e1:Int.tdiv z 65536=z / 65536:=Int.tdiv_eq_ediv_of_nonneg sn.1
    have e2:wrap64 (z / 65536)=z / 65536:=wrap_id (by omega) (by omega)
    rw [e1,e2,Int.tmod_eq_emod_of_nonneg (by omega)]
    omega
theorem cur_pick {c:List Int} {a s:Int} (h:Cur c a s) (n:Int) (hn:n≤60000): ∃ r a' s',spec_l01Cur_pick.f c a s n=some (r,a',s')∧Cur c a' s'∧0≤r∧(r=0∨r < n):=by
 unfold spec_l01Cur_pick.f
 by_cases h1:n≤1
 ·rw [if_pos h1]
  exact ⟨_,_,_,rfl,h,by omega, .inl rfl⟩
 ·rw [if_neg h1]
  obtain ⟨r1,a1,s1,e1,c1,l1,u1⟩:=cur_byte h
  by_cases h2:n≤256
  ·rw [if_pos h2,e1]
   refine ⟨Int.tmod r1 n,a1,s1, ?_,c1, ?_⟩
   ·simp only [Option.bind_some]
    rw [if_neg (by omega)]
   ·rw [Int.tmod_eq_emod_of_nonneg l1]
    have:=Int.emod_nonneg r1 (b:=n) (by omega)
    have:=Int.emod_lt_of_pos r1 (b:=n) (by omega)
    omega
  ·obtain ⟨r2,a2,s2,e2,c2,l2,u2⟩:=cur_byte c1
   rw [if_neg h2,e1]
   have w1:wrap64 (r1 * 256)=r1 * 256:=wrap_id (by omega) (by omega)
   have w2:wrap64 (r1 * 256 + r2)=r1 * 256 + r2:=wrap_id (by omega) (by omega)
   refine ⟨Int.tmod (r1 * 256 + r2) n,a2,s2, ?_,c2, ?_⟩
   ·simp only [Option.bind_some,e2]
    rw [if_neg (by omega),w1,w2]
   ·rw [Int.tmod_eq_emod_of_nonneg (by omega)]
    have:=Int.emod_nonneg (r1 * 256 + r2) (b:=n) (by omega)
    have:=Int.emod_lt_of_pos (r1 * 256 + r2) (b:=n) (by omega)
    omega
theorem cur_size {c:List Int} {a s:Int} (h:Cur c a s): ∃ r a' s',spec_l01Cur_size.f c a s 5=some (r,a',s')∧Cur c a' s'∧0≤r∧r < 6:=by
 have hl:=h.hl
 unfold spec_l01Cur_size.f
 have w1:wrap64 ((c.length:Int) / 12)=(c.length:Int) / 12:=wrap_id (by omega) (by omega)
 have w2:wrap64 ((c.length:Int) / 12 + 2)=(c.length:Int) / 12 + 2:=wrap_id (by omega) (by omega)
 have w3:wrap64 ((c.length:Int) / 12 + 2 + 1)=(c.length:Int) / 12 + 2 + 1:=wrap_id (by omega) (by omega)
 have w4:wrap64 ((5:Int) + 1)=6:=wrap_id (by omega) (by omega)
 rw [w1,w2,w3,w4]
 by_cases h1:(c.length:Int) / 12 + 2 > 5
 ·obtain ⟨r,a',s',e,c',l,u⟩:=cur_pick h 6 (by omega)
  rw [if_pos h1,e]
  exact ⟨r,a',s',rfl,c',l,by omega⟩
 ·obtain ⟨r,a',s',e,c',l,u⟩:=cur_pick h ((c.length:Int) / 12 + 2 + 1) (by omega)
  rw [if_neg h1,e]
  exact ⟨r,a',s',rfl,c',l,by omega⟩
theorem rdOf_mem {α:Type} (d:α) (xs:List α) (i:Int) (h0:0≤i) (h:i < (xs.length:Int)):rdOf d xs i∈xs:=by
 have hi:i.toNat < xs.length:=by omega
 have e:rdOf d xs i=xs[i.toNat]:=by simp [rdOf,List.getD,hi]
 rw [e]
 exact List.getElem_mem hi
theorem cur_name {c:List Int} {a s:Int} (h:Cur c a s): ∃ r a' s',spec_l01DrawName.f c a s=some (r,a',s')∧Cur c a' s'∧r.size≤100:=by
 obtain ⟨r,a',s',e,c',l,u⟩:=cur_pick h 10 (by omega)
 unfold spec_l01DrawName.f
 simp only [Option.bind_some,e,List.length_cons,List.length_nil]
 rw [if_pos l,if_pos (by omega)]
 refine ⟨_,_,_,rfl,c', ?_⟩
 have hm:=rdOf_mem ByteArray.empty ([(⟨#[65,100,100]⟩:ByteArray),(⟨#[78,117,109]⟩:ByteArray),(⟨#[73,100]⟩:ByteArray),(⟨#[97]⟩:ByteArray),(⟨#[98]⟩:ByteArray),(⟨#[120,49]⟩:ByteArray),(⟨#[90,95,122]⟩:ByteArray),(⟨#[76,105,115,116]⟩:ByteArray),(⟨#[73,102]⟩:ByteArray),(⟨#[97,98,99,100,101,102,103,104,105,106,107,108,109,110,111,112,113,114,115,116,117,118,119,120]⟩:ByteArray)]:List ByteArray) r l (by show r < 10;omega)
 have ha: ∀ x∈([(⟨#[65,100,100]⟩:ByteArray),(⟨#[78,117,109]⟩:ByteArray),(⟨#[73,100]⟩:ByteArray),(⟨#[97]⟩:ByteArray),(⟨#[98]⟩:ByteArray),(⟨#[120,49]⟩:ByteArray),(⟨#[90,95,122]⟩:ByteArray),(⟨#[76,105,115,116]⟩:ByteArray),(⟨#[73,102]⟩:ByteArray),(⟨#[97,98,99,100,101,102,103,104,105,106,107,108,109,110,111,112,113,114,115,116,117,118,119,120]⟩:ByteArray)]:List ByteArray),x.size≤100:=by decide
 exact ha _ hm
theorem cur_text {c:List Int} {a s:Int} (h:Cur c a s): ∃ r a' s',spec_l01DrawText.f c a s=some (r,a',s')∧Cur c a' s'∧r.size≤100:=by
 obtain ⟨r,a',s',e,c',l,u⟩:=cur_pick h 11 (by omega)
 unfold spec_l01DrawText.f
 simp only [Option.bind_some,e,List.length_cons,List.length_nil]
 rw [if_pos l,if_pos (by omega)]
 refine ⟨_,_,_,rfl,c', ?_⟩
 have hm:=rdOf_mem ByteArray.empty ([(⟨#[]⟩:ByteArray),(⟨#[49]⟩:ByteArray),(⟨#[43]⟩:ByteArray),(⟨#[120]⟩:ByteArray),(⟨#[97,32,98]⟩:ByteArray),(⟨#[34]⟩:ByteArray),(⟨#[92,10]⟩:ByteArray),(⟨#[0,255,126]⟩:ByteArray),(⟨#[49,50]⟩:ByteArray),(⟨#[127]⟩:ByteArray),(⟨#[105,102]⟩:ByteArray)]:List ByteArray) r l (by show r < 11;omega)
 have ha: ∀ x∈([(⟨#[]⟩:ByteArray),(⟨#[49]⟩:ByteArray),(⟨#[43]⟩:ByteArray),(⟨#[120]⟩:ByteArray),(⟨#[97,32,98]⟩:ByteArray),(⟨#[34]⟩:ByteArray),(⟨#[92,10]⟩:ByteArray),(⟨#[0,255,126]⟩:ByteArray),(⟨#[49,50]⟩:ByteArray),(⟨#[127]⟩:ByteArray),(⟨#[105,102]⟩:ByteArray)]:List ByteArray),x.size≤100:=by decide
 exact ha _ hm
structure Got (c:List Int) (B D:Nat) (r:ByteArray × ByteArray × Bool × List S26 × Int × Int):Prop where
 cur:Cur c r.2.2.2.2.1 r.2.2.2.2.2
 ha:r.1.size≤B
 hb:r.2.1.size≤B
 hl:r.2.2.2.1.length≤B
 hk: ∀ t∈r.2.2.2.1,Small t∧dep t≤D
theorem depL_le {l:List S26} {D:Nat} (h: ∀ t∈l,Small t∧dep t≤D):depL l≤D:=by
 induction l with
 |nil=>exact Nat.zero_le _
 |cons t l ih=>
  have h1:=(h t List.mem_cons_self).2
  have h2:=ih (fun x hx=>h x (List.mem_cons_of_mem _ hx))
  simp only [depL]
  omega
theorem Got.small {c:List Int} {B D:Nat} {r} (h:Got c B D r) (hB:B≤4000):Small ⟨r.1,r.2.1,r.2.2.1,r.2.2.2.1⟩∧dep ⟨r.1,r.2.1,r.2.2.1,r.2.2.2.1⟩≤D + 1:=by
 obtain ⟨_,ha,hb,hl,hk⟩:=h
 refine ⟨Small.mk _ _ _ _ (by omega) (by omega) (by omega) (fun t ht=>(hk t ht).1), ?_⟩
 have:=depL_le hk
 simp only [dep]
 omega
theorem drawTree_loop (c:List Int) (d:Nat) (x1:Int) (ih: ∀ a s,Cur c a s→W (fun k=>spec_l01DrawTree.f k c a s (wrap64 (x1 - 1))) (Got c 100 d)):
  ∀ (m:Nat) (l:List S26) (a s:Int),l.length + m≤100→Cur c a s→(∀ t∈l,Small t∧dep t≤d + 1)→W (fun k=>spec_l01DrawTree.l0 k x1 l (m:Int) c a s) (Got c 100 (d + 1)):=by
 intro m
 induction m with
 |zero=>
  intro l a s hm hc hl
  obtain ⟨r,a',s',e,c',hr⟩:=cur_name hc
  refine W.step (fun k=>rfl) (W.no (by omega) (W.bindc e (W.bindc rfl (W.pure ?_))))
  exact ⟨c',by show r.size≤100;omega,by show (⟨#[]⟩:ByteArray).size≤100;decide,by show l.length≤100;omega,hl⟩
 |succ m IH=>
  intro l a s hm hc hl
  have w1:wrap64 (((m + 1:Nat):Int) - 1)=(m:Int):=by rw [wrap_id (by omega) (by omega)];omega
  refine W.step (fun k=>rfl) (W.yes (by omega) (W.bind (ih a s hc) (fun r hr=>W.yes (by omega) ?_)))
  rw [w1]
  refine IH _ _ _ ?_ hr.cur ?_
  ·rw [List.length_append];simp only [List.length_cons,List.length_nil];omega
  ·intro t ht
   rcases List.mem_append.mp ht with ht|ht
   ·exact hl t ht
   ·rw [List.mem_singleton] at ht
    subst ht
    exact hr.small (by omega)
theorem drawTree_ev (c:List Int): ∀ (d:Nat) (a s:Int),d≤1000→Cur c a s→W (fun k=>spec_l01DrawTree.f k c a s (d:Int)) (Got c 100 d):=by
 have leaf: ∀ (a s:Int) (d:Nat) (x:Int),Cur c a s→W (fun k=>spec_l01DrawTree.j0 k x true c a s) (Got c 100 d):=by
  intro a s d x hc
  obtain ⟨r,a',s',e,c',hr⟩:=cur_name hc
  obtain ⟨r2,a2,s2,e2,c2,hr2⟩:=cur_text c'
  refine W.step (fun k=>by rw [spec_l01DrawTree.j0]) ?_
  refine W.yes rfl (W.bindc e (W.bindc e2 (W.bindc rfl (W.pure ?_))))
  exact ⟨c2,by show r.size≤100;omega,by show r2.size≤100;omega,by show ([]:List S26).length≤100;decide,fun t ht=>absurd ht (List.not_mem_nil)⟩
 intro d
 induction d with
 |zero=>
  intro a s hd hc
  refine W.step (fun k=>by rw [spec_l01DrawTree.f]) ?_
  exact W.yes (by omega) (leaf a s 0 _ hc)
 |succ d ih=>
  intro a s hd hc
  obtain ⟨r,a',s',e,c',l,u⟩:=cur_pick hc 3 (by omega)
  refine W.step (fun k=>by rw [spec_l01DrawTree.f]) ?_
  refine W.no (by omega) (W.bindc e ?_)
  cases hr:(r == 0) with
  |true=>
   simp only
   exact leaf a' s' (d + 1) _ c'
  |false=>
   simp only
   obtain ⟨r2,a2,s2,e2,c2,l2,u2⟩:=cur_pick c' 4 (by omega)
   have w1:wrap64 (((d + 1:Nat):Int) - 1)=(d:Int):=by rw [wrap_id (by omega) (by omega)];omega
   refine W.step (fun k=>by rw [spec_l01DrawTree.j0]) ?_
   refine W.no Bool.false_ne_true (W.bindc e2 ?_)
   have hz:r2=((r2.toNat:Nat):Int):=by omega
   simp only
   rw [hz]
   exact drawTree_loop c d _ (fun a s h=>by rw [w1];exact ih a s (by omega) h) r2.toNat [] a2 s2 (by simp only [List.length_nil];omega) c2 (fun t ht=>absurd ht (List.not_mem_nil))
theorem Got.mono {c:List Int} {B B' D D':Nat} {r} (h:Got c B D r) (hB:B≤B') (hD:D≤D'):Got c B' D' r:=
 ⟨h.cur,Nat.le_trans h.ha hB,Nat.le_trans h.hb hB,Nat.le_trans h.hl hB,fun t ht=>⟨(h.hk t ht).1,Nat.le_trans (h.hk t ht).2 hD⟩⟩
theorem size_strOfNums (l:List Int):(strOfNums l).size=l.length:=by simp [strOfNums,ByteArray.size]
theorem drawAny_l0 (c:List Int): ∀ (m:Nat) (x:Int) (n t:ByteArray) (lf:Bool) (l:List S26) (a s:Int),x + m=62→0≤x→Got c 1100 x.toNat (n,t,lf,l,a,s)→
  W (fun k=>spec_l01DrawAny.l0 k x c a s n t lf l) (Got c 1100 62):=by
 intro m
 induction m with
 |zero=>
  intro x n t lf l a s hm hx hg
  obtain ⟨r,a',s',e,c',h0,h1⟩:=cur_pick hg.cur 2 (by omega)
  have w1:wrap64 (60 + r)=60 + r:=wrap_id (by omega) (by omega)
  refine W.step (fun k=>by rw [spec_l01DrawAny.l0]) (W.bindc e (W.no ?_ (W.pure ?_)))
  ·simp only [w1];omega
  ·have g:=hg.mono (Nat.le_refl _) (show x.toNat≤62 by omega)
   exact ⟨c',g.ha,g.hb,g.hl,g.hk⟩
 |succ m ih=>
  intro x n t lf l a s hm hx hg
  obtain ⟨r,a',s',e,c',h0,h1⟩:=cur_pick hg.cur 2 (by omega)
  have w1:wrap64 (60 + r)=60 + r:=wrap_id (by omega) (by omega)
  have w2:wrap64 (x + 1)=x + 1:=wrap_id (by omega) (by omega)
  refine W.step (fun k=>by rw [spec_l01DrawAny.l0]) (W.bindc e ?_)
  refine W.ite (fun hc=> ?_) (fun hc=> ?_)
  ·refine W.bindc rfl (W.bindc rfl ?_)
   simp only [w2]
   refine ih (x + 1) _ _ _ _ _ _ (by omega) (by omega) ⟨c',by show (⟨#[110]⟩:ByteArray).size≤1100;decide,by show (⟨#[]⟩:ByteArray).size≤1100;decide,by show [(⟨n,t,lf,l⟩:S26)].length≤1100;simp, ?_⟩
   intro y hy
   have hy:y=⟨n,t,lf,l⟩:=List.mem_singleton.mp hy
   subst hy
   have g:=hg.small (by omega)
   exact ⟨g.1,Nat.le_trans g.2 (by omega)⟩
  ·have g:=hg.mono (Nat.le_refl _) (show x.toNat≤62 by omega)
   exact W.pure ⟨c',g.ha,g.hb,g.hl,g.hk⟩
theorem small_leaf (n t:ByteArray) (h1:n.size≤4000) (h2:t.size≤4000):Small ⟨n,t,true, []⟩∧dep ⟨n,t,true, []⟩≤62:=
 ⟨Small.mk _ _ _ _ (by simp) h1 h2 (fun x hx=>absurd hx List.not_mem_nil),by simp [dep,depL]⟩
theorem snoc_small {l:List S26} {y:S26} {D:Nat} (h: ∀ t∈l,Small t∧dep t≤D) (hy:Small y∧dep y≤D): ∀ t∈l ++ [y],Small t∧dep t≤D:=by
 intro t ht
 rcases List.mem_append.mp ht with ht|ht
 ·exact h t ht
 ·rw [List.mem_singleton] at ht
  subst ht
  exact hy
theorem drawAny_l1 (c:List Int): ∀ (m:Nat) (x:Int) (l:List S26) (a s:Int),x + m=1002→0≤x→(l.length:Int)≤x→(∀ t∈l,Small t∧dep t≤62)→Cur c a s→
  W (fun k=>spec_l01DrawAny.l1 k l x c a s) (Got c 1100 62):=by
 intro m
 induction m with
 |zero=>
  intro x l a s hm hx hl hk hg
  obtain ⟨r,a',s',e,c',h0,h1⟩:=cur_pick hg 2 (by omega)
  have w1:wrap64 (1000 + r)=1000 + r:=wrap_id (by omega) (by omega)
  refine W.step (fun k=>by rw [spec_l01DrawAny.l1]) (W.bindc e (W.no ?_ (W.bindc rfl (W.pure ?_))))
  ·simp only [w1];omega
  ·exact ⟨c',by show (⟨#[110]⟩:ByteArray).size≤1100;decide,by show (⟨#[]⟩:ByteArray).size≤1100;decide,by show l.length≤1100;omega,hk⟩
 |succ m ih=>
  intro x l a s hm hx hl hk hg
  obtain ⟨r,a',s',e,c',h0,h1⟩:=cur_pick hg 2 (by omega)
  have w2:wrap64 (x + 1)=x + 1:=wrap_id (by omega) (by omega)
  refine W.step (fun k=>by rw [spec_l01DrawAny.l1]) (W.bindc e ?_)
  refine W.ite (fun hc=> ?_) (fun hc=> ?_)
  ·refine W.bindc rfl (W.yes (by omega) ?_)
   simp only [w2]
   refine ih (x + 1) _ _ _ (by omega) (by omega) ?_ (snoc_small hk (small_leaf _ _ (by decide) (by decide))) c'
   rw [List.length_append];simp only [List.length_cons,List.length_nil];omega
  ·refine W.bindc rfl (W.pure ?_)
   exact ⟨c',by show (⟨#[110]⟩:ByteArray).size≤1100;decide,by show (⟨#[]⟩:ByteArray).size≤1100;decide,by show l.length≤1100;omega,hk⟩
theorem drawAny_l2 (c:List Int): ∀ (m:Nat) (x:Int) (l:List S26) (a s:Int),x + m=27→0≤x→(l.length:Int)≤x→(∀ t∈l,Small t∧dep t≤62)→Cur c a s→
  W (fun k=>spec_l01DrawAny.l2 k l x c a s) (Got c 1100 62):=by
 intro m
 induction m with
 |zero=>
  intro x l a s hm hx hl hk hg
  obtain ⟨r,a',s',e,c',h0,h1⟩:=cur_pick hg 3 (by omega)
  have w1:wrap64 (24 + r)=24 + r:=wrap_id (by omega) (by omega)
  refine W.step (fun k=>by rw [spec_l01DrawAny.l2]) (W.bindc e (W.no ?_ (W.bindc rfl (W.pure ?_))))
  ·simp only [w1];omega
  ·exact ⟨c',by show (⟨#[110]⟩:ByteArray).size≤1100;decide,by show (⟨#[]⟩:ByteArray).size≤1100;decide,by show l.length≤1100;omega,hk⟩
 |succ m ih=>
  intro x l a s hm hx hl hk hg
  obtain ⟨r,a',s',e,c',h0,h1⟩:=cur_pick hg 3 (by omega)
  have w2:wrap64 (x + 1)=x + 1:=wrap_id (by omega) (by omega)
  refine W.step (fun k=>by rw [spec_l01DrawAny.l2]) (W.bindc e ?_)
  refine W.ite (fun hc=> ?_) (fun hc=> ?_)
  ·refine W.yes (by omega) (W.bindc rfl (W.yes (by omega) ?_))
   simp only [w2]
   refine ih (x + 1) _ _ _ (by omega) (by omega) ?_ (snoc_small hk (small_leaf _ _ (by decide) (by rw [size_strOfNums,List.length_replicate];omega))) c'
   rw [List.length_append];simp only [List.length_cons,List.length_nil];omega
  ·refine W.bindc rfl (W.pure ?_)
   exact ⟨c',by show (⟨#[110]⟩:ByteArray).size≤1100;decide,by show (⟨#[]⟩:ByteArray).size≤1100;decide,by show l.length≤1100;omega,hk⟩
theorem drawAny_ev {c:List Int} {a s:Int} (hc:Cur c a s):W (fun k=>spec_l01DrawAny.f k c a s) (Got c 1100 62):=by
 obtain ⟨r,a1,s1,e,c1,h0,h1⟩:=cur_size hc
 have w1:wrap64 (1 + r)=((r.toNat + 1:Nat):Int):=by rw [wrap_id (by omega) (by omega)];omega
 refine W.cong (fun k=>by rw [spec_l01DrawAny.f]) (W.bindc e ?_)
 simp only [w1]
 refine W.bind (drawTree_ev c (r.toNat + 1) a1 s1 (by omega) c1) ?_
 rintro ⟨n,t,lf,l,a2,s2⟩ hg
 have g:=hg.mono (show 100≤1100 by omega) (show r.toNat + 1≤62 by omega)
 obtain ⟨p,a3,s3,e3,c3,l3,u3⟩:=cur_pick hg.cur 24 (by omega)
 refine W.bindc e3 ?_
 have hsn:n.size≤100:=hg.ha
 have hst:t.size≤100:=hg.hb
 have hsl:l.length≤100:=hg.hl
 have hkk: ∀ t∈l,Small t∧dep t≤62:=g.hk
 simp only
 refine W.ite (fun _=> ?_) (fun _=> ?_)
 ·refine W.bindc rfl ?_
  obtain ⟨q,a4,s4,e4,c4,l4,u4⟩:=cur_pick c3 4 (by omega)
  refine W.bindc e4 ?_
  have hq:q < (([(⟨#[]⟩:ByteArray),(⟨#[49,97]⟩:ByteArray),(⟨#[97,32,98]⟩:ByteArray),(⟨#[97,98,99,100,101,102,103,104,105,106,107,108,109,110,111,112,113,114,115,116,117,118,119,120,121]⟩:ByteArray)]:List ByteArray).length:Int):=by show q < 4;omega
  refine W.yes l4 (W.yes hq (W.pure ⟨c4, ?_,g.hb,g.hl,g.hk⟩))
  have hm:=rdOf_mem ByteArray.empty _ q l4 hq
  have ha: ∀ x∈([(⟨#[]⟩:ByteArray),(⟨#[49,97]⟩:ByteArray),(⟨#[97,32,98]⟩:ByteArray),(⟨#[97,98,99,100,101,102,103,104,105,106,107,108,109,110,111,112,113,114,115,116,117,118,119,120,121]⟩:ByteArray)]:List ByteArray),x.size≤1100:=by decide
  exact ha _ hm
 refine W.ite (fun _=> ?_) (fun _=> ?_)
 ·exact W.pure ⟨c3,g.ha,g.hb,g.hl,g.hk⟩
 refine W.ite (fun _=> ?_) (fun _=> ?_)
 ·refine W.yes (by omega) (W.pure ⟨c3,g.ha, ?_,g.hl,g.hk⟩)
  show (t ++ (⟨#[113]⟩:ByteArray)).size≤1100
  rw [ByteArray.size_append]
  have:(⟨#[113]⟩:ByteArray).size=1:=rfl
  omega
 refine W.ite (fun _=> ?_) (fun _=> ?_)
 ·refine W.yes (by omega) (W.pure ⟨c3,g.ha,g.hb, ?_,snoc_small hkk ⟨Small.mk _ _ _ _ (by simp) (by decide) (by decide) (fun x hx=>absurd hx List.not_mem_nil),by simp [dep,depL]⟩⟩)
  show (l ++ [_]).length≤1100
  rw [List.length_append];simp only [List.length_cons,List.length_nil];omega
 refine W.ite (fun _=> ?_) (fun _=> ?_)
 ·refine W.bindc rfl ?_
  exact drawAny_l0 c 61 1 _ _ _ _ _ _ (by omega) (by omega) ⟨c3,by show (⟨#[97]⟩:ByteArray).size≤1100;decide,by show (⟨#[]⟩:ByteArray).size≤1100;decide,by show ([]:List S26).length≤1100;decide,fun t ht=>absurd ht List.not_mem_nil⟩
 refine W.ite (fun _=> ?_) (fun _=> ?_)
 ·exact drawAny_l1 c 1001 1 [] _ _ (by omega) (by omega) (by simp) (fun t ht=>absurd ht List.not_mem_nil) c3
 refine W.ite (fun _=> ?_) (fun _=> ?_)
 ·obtain ⟨q,a4,s4,e4,c4,l4,u4⟩:=cur_pick c3 2 (by omega)
  have w2:wrap64 (200 + q)=200 + q:=wrap_id (by omega) (by omega)
  refine W.bindc e4 ?_
  simp only [w2]
  refine W.yes (by omega) (W.yes (by omega) (W.bindc rfl (W.pure ?_)))
  refine ⟨c4,by show (⟨#[97]⟩:ByteArray).size≤1100;decide, ?_,by show ([]:List S26).length≤1100;decide,fun t ht=>absurd ht List.not_mem_nil⟩
  show (strOfNums (List.replicate (200 + q).toNat 0)).size≤1100
  rw [size_strOfNums,List.length_replicate];omega
 refine W.ite (fun _=> ?_) (fun _=> ?_)
 ·exact drawAny_l2 c 27 0 [] _ _ (by omega) (by omega) (by simp) (fun t ht=>absurd ht List.not_mem_nil) c3
 ·exact W.pure ⟨c3,g.ha,g.hb,g.hl,g.hk⟩
structure Way (c:List Int) (B:Nat) (r:List Int × Int × Int):Prop where
 cur:Cur c r.2.1 r.2.2
 hl:r.1.length≤B
theorem path_end (c:List Int) (B:Nat) (hB:B≤4000) (p:List Int) (a s:Int) (hp:p.length + 1≤B) (hc:Cur c a s):W (fun k=>spec_l01DrawPath.j1 k p c a s) (Way c B):=by
 obtain ⟨r,a',s',e,c',h0,h1⟩:=cur_pick hc 8 (by omega)
 refine W.step (fun k=>by rw [spec_l01DrawPath.j1]) (W.bindc e ?_)
 refine W.ite (fun _=> ?_) (fun _=> ?_)
 ·obtain ⟨r2,a2,s2,e2,c2,h2,h3⟩:=cur_pick c' 3 (by omega)
  refine W.bindc e2 (W.yes (by omega) (W.pure ⟨c2, ?_⟩))
  show (p ++ [_]).length≤B
  rw [List.length_append];simp only [List.length_cons,List.length_nil];omega
 ·exact W.pure ⟨c',by show p.length≤B;omega⟩
theorem dep_kid {l:List S26} {t:S26} (h:t∈l):dep t≤depL l:=by
 induction l with
 |nil=>exact absurd h List.not_mem_nil
 |cons u l ih=>
  simp only [depL]
  rcases List.mem_cons.mp h with rfl|h
  ·omega
  ·have:=ih h
   omega
theorem path_loop (c:List Int) (B:Nat) (hB:B≤4000): ∀ (t:S26),Small t→ ∀ (p:List Int) (a s:Int),p.length + dep t + 1≤B→Cur c a s→
  W (fun k=>spec_l01DrawPath.l0 k p c a s t.f0 t.f1 t.f2 t.f3) (Way c B):=by
 intro t hs
 induction hs with
 |mk n x lf l hl hn hx hk ih=>
  intro p a s hp hc
  refine W.step (fun k=>by rw [spec_l01DrawPath.l0]) ?_
  refine W.ite (fun h1=> ?_) (fun h1=> ?_)
  ·obtain ⟨r,a1,s1,e1,c1,l1,u1⟩:=cur_pick hc 4 (by omega)
   refine W.bindc e1 ?_
   refine W.ite (fun _=> ?_) (fun _=> ?_)
   ·obtain ⟨q,a2,s2,e2,c2,l2,u2⟩:=cur_pick c1 (l.length:Int) (by omega)
    have hq:0≤q∧q < (l.length:Int):=by
     simp only at h1
     omega
    have hm:=kid_mem hq
    have hd:=dep_kid hm
    simp only [dep] at hp
    refine W.bindc e2 (W.yes (by omega) (W.yes hq.1 (W.yes hq.2 ?_)))
    refine ih _ hm _ _ _ ?_ c2
    rw [List.length_append];simp only [List.length_cons,List.length_nil];omega
   ·exact path_end c B hB p a1 s1 (by omega) c1
  ·exact path_end c B hB p a s (by omega) hc
structure Puts (r:ByteArray × ByteArray × Bool × List S26 × List Int × ByteArray × ByteArray × Bool × List S26) (t:S26) (p:List Int) (u:S26):Prop where
 e:r=(t.f0,t.f1,t.f2,t.f3,p,u.f0,u.f1,u.f2,u.f3)
 ht:Small t
 hu:Small u
 hp:p.length≤4000
theorem cur_draw (l:List Int) (hb: ∀ x∈l,0≤x∧x < 256) (hl:l.length≤1048576): ∃ c a s,spec_l01DrawCur.f l=some (c,a,s)∧Cur c a s:=
 ⟨l,0,wrap64 (17 + (l.length:Int)),rfl,hb,hl,by omega,by omega,by rw [wrap_id (by omega) (by omega)];omega,by rw [wrap_id (by omega) (by omega)];omega⟩
theorem drawTreePut_ev (l:List Int) (hb: ∀ x∈l,0≤x∧x < 256) (hl:l.length≤1048576):W (fun k=>spec_DrawTreePut.f k l) (fun r=> ∃ t p u,Puts r t p u):=by
 obtain ⟨c,a,s,e,hc⟩:=cur_draw l hb hl
 refine W.cong (fun k=>by rw [spec_DrawTreePut.f]) (W.bindc e ?_)
 refine W.bind (drawTree_ev c 3 a s (by omega) hc) ?_
 rintro ⟨n,t,lf,kids,a2,s2⟩ hg
 have hs:Small ⟨n,t,lf,kids⟩∧dep ⟨n,t,lf,kids⟩≤62 + 1:=(hg.mono (show 100≤1100 by omega) (show 3≤62 by omega)).small (by omega)
 obtain ⟨p,a3,s3,e3,c3,l3,u3⟩:=cur_pick hg.cur 4 (by omega)
 refine W.bindc e3 ?_
 refine W.ite (fun _=> ?_) (fun _=> ?_)
 ·refine W.bind (drawAny_ev c3) ?_
  rintro ⟨n4,t4,lf4,kids4,a4,s4⟩ hg4
  have hs4:Small ⟨n4,t4,lf4,kids4⟩∧dep ⟨n4,t4,lf4,kids4⟩≤62 + 1:=hg4.small (by omega)
  refine W.bind (path_loop c 4000 (by omega) _ hs4.1 [] a4 s4 (by have:=hs4.2;simp only [List.length_nil];omega) hg4.cur) ?_
  rintro ⟨p5,a5,s5⟩ hw
  refine W.bind (drawAny_ev hw.cur) ?_
  rintro ⟨n6,t6,lf6,kids6,a6,s6⟩ hg6
  exact W.pure ⟨⟨n4,t4,lf4,kids4⟩,p5,⟨n6,t6,lf6,kids6⟩,rfl,hs4.1,(hg6.small (by omega)).1,hw.hl⟩
 ·refine W.bind (path_loop c 4000 (by omega) _ hs.1 [] a3 s3 (by have:=hs.2;simp only [List.length_nil];omega) c3) ?_
  rintro ⟨p5,a5,s5⟩ hw
  refine W.bind (drawAny_ev hw.cur) ?_
  rintro ⟨n6,t6,lf6,kids6,a6,s6⟩ hg6
  exact W.pure ⟨⟨n,t,lf,kids⟩,p5,⟨n6,t6,lf6,kids6⟩,rfl,hs.1,(hg6.small (by omega)).1,hw.hl⟩
end Go.Proofs.Ytakpkmkjhndpjaa.Pure
end
section
namespace Go.Proofs.Ytakpkmkjhndpjaa.Pure
open Go.RowKit Go.Proofs.Ytakpkmkjhndpjaa.Q Go.Proofs.YtakpkmkjhndpjaaW.PrintWords Go.Proofs.YtakpkmkjhndpjaaW.PrintLast
def escI (b:Int):List Int:=if b=34∨b=92 then [92,b] else if 32≤b∧b≤126 then [b] else [92,48 + b / 100,48 + b / 10 % 10,48 + b % 10]
theorem escI_len (b:Int):(escI b).length≤4:=by
 unfold escI
 split
 ·simp
 ·split <;> simp
def qfrom (s:ByteArray):Nat→Nat→List Int
 |0,_=> []
 |n + 1,i=>escI (bt s (i:Int)) ++ qfrom s n (i + 1)
theorem qfrom_len (s:ByteArray): ∀ n i,(qfrom s n i).length≤4 * n
 |0,_=>by simp [qfrom]
 |n + 1,i=>by
  have:=qfrom_len s n (i + 1)
  have:=escI_len (bt s (i:Int))
  simp only [qfrom,List.length_append]
  omega
theorem sQuote_loop (s:ByteArray) (hs:s.size≤4000): ∀ (n i:Nat) (o:List Int),s.size - i=n→i≤s.size→o.length + 4 * n≤20000→W (fun k=>spec_l01Quote.l0 k s o (i:Int)) (· =strOfNums (o ++ qfrom s n i ++ [34])):=by
 intro n
 induction n with
 |zero=>
  intro i o hn hi ho
  refine W.step (fun k=>by rw [spec_l01Quote.l0]) (W.no (by omega) (W.yes (by omega) (W.pure ?_)))
  simp only [qfrom,List.append_nil]
 |succ n ih=>
  intro i o hn hi ho
  have hw:wrap64 ((i:Int) + 1)=((i + 1:Nat):Int):=by rw [wrap_id (by omega) (by omega)];omega
  have hr:=bt_range s (i:Int)
  have esc:W (fun k=>spec_l01Quote.j1 k s o (i:Int) (bt s (i:Int)) true) (· =strOfNums (o ++ ([92,bt s (i:Int)] ++ qfrom s n (i + 1)) ++ [34])):=by
   refine W.step (fun k=>by rw [spec_l01Quote.j1]) ?_
   refine W.yes rfl (W.bindc rfl (W.yes (by simp only [List.length_cons,List.length_nil];omega) ?_))
   rw [hw]
   refine W.mono (ih (i + 1) _ (by omega) (by omega) (by rw [List.length_append];simp only [List.length_cons,List.length_nil];omega)) (fun a ha=> ?_)
   rw [ha]
   simp only [List.append_assoc]
  refine W.step (fun k=>by rw [spec_l01Quote.l0]) (W.yes (by omega) (W.yes (by omega) ?_))
  refine W.ite (fun h1=> ?_) (fun h1=> ?_)
  ·have e:escI (bt s (i:Int))= [92,bt s (i:Int)]:=by unfold escI;rw [if_pos (.inl h1)]
   simp only [qfrom,e]
   exact esc
  ·by_cases h2:bt s (i:Int)=92
   ·have e:escI (bt s (i:Int))= [92,bt s (i:Int)]:=by unfold escI;rw [if_pos (.inr h2)]
    have e2:(bt s (i:Int) == 92)=true:=beq_iff_eq.mpr h2
    simp only [qfrom,e,e2]
    exact esc
   ·have e2:(bt s (i:Int) == 92)=false:=beq_eq_false_iff_ne.mpr h2
    simp only [e2]
    refine W.step (fun k=>by rw [spec_l01Quote.j1]) (W.no Bool.false_ne_true ?_)
    have f1:(48 + ((Int.tdiv (bt s (i:Int)) 100) % 256)) % 256=48 + bt s (i:Int) / 100:=by rw [Int.tdiv_eq_ediv_of_nonneg hr.1];omega
    have f2:48 + (((Int.tdiv (bt s (i:Int)) 10) % 256) % 10)=48 + bt s (i:Int) / 10 % 10:=by rw [Int.tdiv_eq_ediv_of_nonneg hr.1];omega
    have f3:(48 + (Int.tmod (bt s (i:Int)) 10)) % 256=48 + bt s (i:Int) % 10:=by rw [Int.tmod_eq_emod_of_nonneg hr.1];omega
    have out: ∀ (hno: ¬ (32≤bt s (i:Int)∧bt s (i:Int)≤126)),W (fun k=>(some (([92,(48 + ((Int.tdiv (bt s (i:Int)) 100) % 256)) % 256,48 + (((Int.tdiv (bt s (i:Int)) 10) % 256) % 10),(48 + (Int.tmod (bt s (i:Int)) 10)) % 256]:List Int):List Int)).bind fun y511=>(if o.length + y511.length < 140737488355328 then (spec_l01Quote.l0 k s (o ++ y511) (wrap64 ((i:Int) + 1))) else (none))) (· =strOfNums (o ++ qfrom s (n + 1) i ++ [34])):=by
     intro hno
     have e:escI (bt s (i:Int))= [92,48 + bt s (i:Int) / 100,48 + bt s (i:Int) / 10 % 10,48 + bt s (i:Int) % 10]:=by
      unfold escI
      rw [if_neg (by omega),if_neg hno]
     rw [f1,f2,f3,hw]
     refine W.bindc rfl (W.yes (by simp only [List.length_cons,List.length_nil];omega) ?_)
     refine W.mono (ih (i + 1) _ (by omega) (by omega) (by rw [List.length_append];simp only [List.length_cons,List.length_nil];omega)) (fun a ha=> ?_)
     rw [ha]
     simp only [qfrom,e,List.append_assoc]
    refine W.ite (fun h3=> ?_) (fun h3=>out (by omega))
    refine W.ite (fun h4=> ?_) (fun h4=>out (by omega))
    refine W.yes (by omega) ?_
    rw [hw]
    have e:escI (bt s (i:Int))= [bt s (i:Int)]:=by
     unfold escI
     rw [if_neg (by omega),if_pos (by omega)]
    refine W.mono (ih (i + 1) _ (by omega) (by omega) (by rw [List.length_append];simp only [List.length_cons,List.length_nil];omega)) (fun a ha=> ?_)
    rw [ha]
    simp only [qfrom,e,List.append_assoc]
def quote8 (s:ByteArray):List UInt8:=34 :: ((qfrom s s.size 0).map u8of ++ [34])
theorem strOfNums_list (l:List Int):(strOfNums l).data.toList=l.map u8of:=by
 simp only [strOfNums]
 rfl
theorem sQuote (s:ByteArray) (hs:s.size≤4000):W (fun k=>spec_l01Quote.f k s) (fun r=>r.data.toList=quote8 s):=by
 refine W.mono (W.cong (fun k=>by rw [spec_l01Quote.f];rfl) (sQuote_loop s hs s.size 0 [34] (by omega) (by omega) (by simp only [List.length_cons,List.length_nil];omega))) (fun a ha=> ?_)
 rw [ha,strOfNums_list]
 simp [quote8,u8of]
theorem iQuote_loop (s:ByteArray) (hs:s.size≤4000): ∀ (n i:Nat) (o:List UInt8),s.size - i=n→i≤s.size→o.length + 4 * n≤10000000000000→W (fun k=>impl_show.l1 k o s (i:Int)) (· =o ++ ((qfrom s n i).map u8of ++ [34])):=by
 intro n
 induction n with
 |zero=>
  intro i o hn hi ho
  refine W.step (fun k=>by rw [impl_show.l1]) (W.no (by omega) ?_)
  unfold wb
  refine W.yes (by omega) (W.pure ?_)
  simp only [qfrom,List.map_nil,List.nil_append]
 |succ n ih=>
  intro i o hn hi ho
  have hw:wrap64 ((i:Int) + 1)=((i + 1:Nat):Int):=by rw [wrap_id (by omega) (by omega)];omega
  have hr:=bt_range s (i:Int)
  have put: ∀ (o:List UInt8) (u:UInt8),o.length≤10000000000100→wb o u=some (o ++ [u]):=fun o u h=>by unfold wb;rw [if_pos (by omega)]
  refine W.step (fun k=>by rw [impl_show.l1]) (W.yes (by omega) (W.yes (by omega) ?_))
  rw [hw]
  refine W.ite (fun h1=> ?_) (fun h1=> ?_)
  ·have e:escI (bt s (i:Int))= [92,bt s (i:Int)]:=by unfold escI;rw [if_pos h1]
   refine W.bindc (put _ _ (by omega)) (W.bindc (put _ _ (by simp;omega)) ?_)
   refine W.mono (ih (i + 1) _ (by omega) (by omega) (by simp;omega)) (fun a ha=> ?_)
   rw [ha]
   simp [qfrom,e,u8of]
  ·refine W.ite (fun h2=> ?_) (fun h2=> ?_)
   ·have e:escI (bt s (i:Int))= [bt s (i:Int)]:=by unfold escI;rw [if_neg h1,if_pos h2]
    refine W.bindc (put _ _ (by omega)) ?_
    refine W.mono (ih (i + 1) _ (by omega) (by omega) (by simp;omega)) (fun a ha=> ?_)
    rw [ha]
    simp [qfrom,e]
   ·have e:escI (bt s (i:Int))= [92,48 + bt s (i:Int) / 100,48 + bt s (i:Int) / 10 % 10,48 + bt s (i:Int) % 10]:=by unfold escI;rw [if_neg h1,if_neg h2]
    refine W.bindc (put _ _ (by omega)) (W.bindc (put _ _ (by simp;omega)) (W.bindc (put _ _ (by simp;omega)) (W.bindc (put _ _ (by simp;omega)) ?_)))
    refine W.mono (ih (i + 1) _ (by omega) (by omega) (by simp;omega)) (fun a ha=> ?_)
    rw [ha]
    simp [qfrom,e,u8of]
mutual
def show8:S26→List UInt8
 |⟨a,b,c,l⟩=>if c=true then a.data.toList ++ quote8 b else 40 :: (a.data.toList ++ (showL l ++ [41]))
def showL:List S26→List UInt8
 | []=> []
 |t :: l=>32 :: (show8 t ++ showL l)
end
theorem quote8_len (s:ByteArray):(quote8 s).length≤4 * s.size + 2:=by
 have:=qfrom_len s s.size 0
 simp only [quote8,List.length_cons,List.length_append,List.length_map,List.length_nil]
 omega
theorem showL_len (l:List S26) (h: ∀ t∈l,(show8 t).length + 1≤21000 * cnt t):(showL l).length≤21000 * cntL l:=by
 induction l with
 |nil=>simp [showL]
 |cons t l ih=>
  have h1:=h t List.mem_cons_self
  have h2:=ih (fun x hx=>h x (List.mem_cons_of_mem _ hx))
  simp only [showL,cntL,List.length_cons,List.length_append]
  omega
theorem size_list (a:ByteArray):a.data.toList.length=a.size:=rfl
theorem show8_len: ∀ t,Small t→(show8 t).length + 1≤21000 * cnt t:=by
 intro t hs
 induction hs with
 |mk a b c l hl ha hb h ih=>
  have h1:=showL_len l ih
  have h2:=quote8_len b
  have h3:=size_list a
  cases c with
  |true=>
   simp only [show8,cnt,if_true,List.length_append]
   omega
  |false=>
   simp only [show8,cnt,Bool.false_eq_true,if_false,List.length_append,List.length_cons,List.length_nil]
   omega
theorem append_list (a b:ByteArray):(a ++ b).data.toList=a.data.toList ++ b.data.toList:=by rw [ByteArray.data_append,Array.toList_append]
theorem sShow_loop (a b:ByteArray) (c:Bool) (l:List S26) (hl:l.length≤4000) (hs: ∀ t∈l,Small t) (ih: ∀ t∈l,cnt t≤1000000→W (fun k=>spec_l01Show.f k t.f0 t.f1 t.f2 t.f3) (fun r=>r.data.toList=show8 t)):
  ∀ (m i:Nat) (o:ByteArray),l.length - i=m→i≤l.length→o.size + 21000 * cntL (l.drop i)≤100000000000000→cntL (l.drop i)≤1000000→W (fun k=>spec_l01Show.l0 k o (i:Int) a b c l) (fun r=>r.data.toList=o.data.toList ++ (showL (l.drop i) ++ [41])):=by
 intro m
 induction m with
 |zero=>
  intro i o hm hi ho hc
  have e:i=l.length:=by omega
  subst e
  refine W.step (fun k=>by rw [spec_l01Show.l0]) (W.no (by omega) (W.yes (by omega) (W.pure ?_)))
  rw [append_list,List.drop_length]
  rfl
 |succ m IH=>
  intro i o hm hi ho hc
  have hlt:i < l.length:=by omega
  have hdrop:l.drop i=l[i] :: l.drop (i + 1):=List.drop_eq_getElem_cons hlt
  have hw:wrap64 ((i:Int) + 1)=((i + 1:Nat):Int):=by rw [wrap_id (by omega) (by omega)];omega
  rw [hdrop] at ho hc ⊢
  simp only [cntL] at ho hc
  have hsm:=show8_len l[i] (hs _ (List.getElem_mem hlt))
  refine W.step (fun k=>by rw [spec_l01Show.l0]) (W.yes (by omega) (W.yes (by omega) (W.yes (by omega) ?_)))
  rw [rdT l i hlt,hw]
  refine W.bind (ih l[i] (List.getElem_mem hlt) (by omega)) (fun r hr=> ?_)
  have hrs:r.size=(show8 l[i]).length:=by rw [← hr,size_list]
  refine W.yes (by omega) ?_
  have e1:(⟨#[32]⟩:ByteArray).size=1:=rfl
  refine W.mono (IH (i + 1) _ (by omega) (by omega) (by rw [ByteArray.size_append,ByteArray.size_append];omega) (by omega)) (fun x hx=> ?_)
  rw [hx,append_list,append_list,hr]
  simp [showL]
theorem sShow: ∀ t,Small t→cnt t≤1000000→W (fun k=>spec_l01Show.f k t.f0 t.f1 t.f2 t.f3) (fun r=>r.data.toList=show8 t):=by
 intro t hs
 induction hs with
 |mk a b c l hl ha hb h ih=>
  intro hc
  show W (fun k=>spec_l01Show.f k a b c l) _
  refine W.step (fun k=>by rw [spec_l01Show.f]) ?_
  cases c with
  |true=>
   refine W.yes rfl (W.bind (sQuote b hb) (fun r hr=> ?_))
   have h2:=quote8_len b
   have hrs:r.size=(quote8 b).length:=by rw [← hr,size_list]
   refine W.yes (by omega) (W.pure ?_)
   rw [append_list,hr]
   rfl
  |false=>
   simp only [cnt] at hc
   have e1:(⟨#[40]⟩:ByteArray).size=1:=rfl
   refine W.no Bool.false_ne_true (W.yes (by omega) ?_)
   refine W.mono (sShow_loop a b false l hl h ih l.length 0 _ rfl (by omega) (by rw [ByteArray.size_append,List.drop_zero];omega) (by rw [List.drop_zero];omega)) (fun x hx=> ?_)
   rw [hx,append_list,List.drop_zero]
   simp [show8]
theorem put1 {o:List UInt8} {u:UInt8} (h:o.length < 1000000000000):wb o u=some (o ++ [u]):=by unfold wb;rw [if_pos (by omega)]
theorem puts {o:List UInt8} {s:ByteArray} (h:o.length + s.size≤1000000000000):ws o s=some (o ++ s.data.toList):=by unfold ws;rw [if_pos (by omega)]
theorem iShow_loop (l:List S26) (hl:l.length≤4000) (ih: ∀ t∈l,∀ o:List UInt8,o.length + (show8 t).length≤1000000000000→W (fun k=>impl_show.f k o t.f0 t.f1 t.f2 t.f3) (· =o ++ show8 t)):
  ∀ (m i:Nat) (o:List UInt8),l.length - i=m→i≤l.length→o.length + (showL (l.drop i)).length + 1≤1000000000000→W (fun k=>impl_show.l0 k o l (i:Int)) (· =o ++ (showL (l.drop i) ++ [41])):=by
 intro m
 induction m with
 |zero=>
  intro i o hm hi ho
  have e:i=l.length:=by omega
  subst e
  refine W.step (fun k=>by rw [impl_show.l0]) (W.no (by omega) ?_)
  rw [put1 (by omega),List.drop_length]
  exact W.pure rfl
 |succ m IH=>
  intro i o hm hi ho
  have hlt:i < l.length:=by omega
  have hdrop:l.drop i=l[i] :: l.drop (i + 1):=List.drop_eq_getElem_cons hlt
  have hw:wrap64 ((i:Int) + 1)=((i + 1:Nat):Int):=by rw [wrap_id (by omega) (by omega)];omega
  rw [hdrop] at ho ⊢
  simp only [showL,List.length_cons,List.length_append] at ho
  refine W.step (fun k=>by rw [impl_show.l0]) (W.yes (by omega) (W.yes (by omega) (W.bindc (put1 (by omega)) ?_)))
  rw [rdT l i hlt,hw]
  refine W.bind (ih l[i] (List.getElem_mem hlt) _ (by rw [List.length_append,List.length_singleton];omega)) (fun r hr=> ?_)
  refine W.mono (IH (i + 1) _ (by omega) (by omega) (by rw [hr];simp;omega)) (fun x hx=> ?_)
  rw [hx,hr]
  simp [showL]
theorem iShow: ∀ t,Small t→ ∀ o:List UInt8,o.length + (show8 t).length≤1000000000000→W (fun k=>impl_show.f k o t.f0 t.f1 t.f2 t.f3) (· =o ++ show8 t):=by
 intro t hs
 induction hs with
 |mk a b c l hl ha hb h ih=>
  intro o ho
  have hsz:=size_list a
  show W (fun k=>impl_show.f k o a b c l) _
  refine W.step (fun k=>by rw [impl_show.f]) ?_
  cases c with
  |true=>
   simp only [show8,if_true,List.length_append] at ho
   have hq:=quote8_len b
   simp only [quote8,List.length_cons,List.length_append] at ho
   refine W.yes rfl (W.bindc (puts (by omega)) (W.bindc (put1 (by rw [List.length_append];omega)) ?_))
   refine W.mono (iQuote_loop b hb b.size 0 _ (by omega) (by omega) (by simp;omega)) (fun x hx=> ?_)
   rw [hx]
   simp [show8,quote8]
  |false=>
   simp only [show8,Bool.false_eq_true,if_false,List.length_append,List.length_cons,List.length_nil] at ho
   refine W.no Bool.false_ne_true (W.bindc (put1 (by omega)) (W.bindc (puts (by simp;omega)) ?_))
   refine W.mono (iShow_loop l hl ih l.length 0 _ rfl (by omega) (by rw [List.drop_zero];simp;omega)) (fun x hx=> ?_)
   rw [hx,List.drop_zero]
   simp [show8]
theorem iText (t:S26) (hs:Small t) (hc:cnt t≤1000000):W (fun k=>impl_text.f k t.f0 t.f1 t.f2 t.f3) (fun r=>r.data.toList=show8 t):=by
 have:=show8_len t hs
 refine W.cong (fun k=>by rw [impl_text.f]) (W.bind (iShow t hs [] (by simp;omega)) (fun r hr=>W.pure ?_))
 rw [hr]
 simp
theorem and32 (x:Int) (h0:0≤x) (h1:x < 9223372036854775808):Go.bits .and .i64 x 4294967295=x % 4294967296:=by
 have hx:x=((x.toNat:Nat):Int):=by omega
 have h2:(BitVec.ofInt 64 x).toNat=x.toNat:=by
  rw [hx,BitVec.ofInt_natCast,BitVec.toNat_ofNat]
  omega
 have h3:(BitVec.ofInt 64 4294967295).toNat=2 ^ 32 - 1:=by decide
 have h4:((BitVec.ofInt 64 x) &&& (BitVec.ofInt 64 4294967295)).toNat=x.toNat % 2 ^ 32:=by
  rw [BitVec.toNat_and,h2,h3,Nat.and_two_pow_sub_one_eq_mod]
 show IntKind.i64.wrap (((BitVec.ofInt 64 x) &&& (BitVec.ofInt 64 4294967295)).toNat:Int)=x % 4294967296
 rw [h4]
 have h5:(((x.toNat % 2 ^ 32:Nat)):Int)=x % 4294967296:=by omega
 rw [h5]
 have h6:0≤x % 4294967296:=Int.emod_nonneg _ (by omega)
 have h7:x % 4294967296 < 4294967296:=Int.emod_lt_of_pos _ (by omega)
 rw [IntKind.wrap_i64]
 omega
def hashN (s:ByteArray):Nat→Nat→Int→Int
 |0,_,h=>h
 |n + 1,i,h=>hashN s n (i + 1) ((h * 33 + bt s (i:Int)) % 4294967296)
theorem hash_next {h b:Int} (h0:0≤h) (h1:h < 4294967296) (b0:0≤b) (b1:b≤255):wrap64 ((wrap64 (h * 33)) + (wrap64 b))=h * 33 + b:=by
 have e1:wrap64 (h * 33)=h * 33:=wrap_id (by omega) (by omega)
 have e2:wrap64 b=b:=wrap_id (by omega) (by omega)
 rw [e1,e2]
 exact wrap_id (by omega) (by omega)
theorem iHash_loop (s:ByteArray) (hs:s.size≤1000000000000): ∀ (n i:Nat) (h:Int),s.size - i=n→i≤s.size→0≤h→h < 4294967296→W (fun k=>impl_TreeHash.l0 k h s (i:Int)) (· =(hashN s n i h,0)):=by
 intro n
 induction n with
 |zero=>
  intro i h hn hi h0 h1
  refine W.step (fun k=>by rw [impl_TreeHash.l0]) ?_
  exact W.no (by omega) (W.pure rfl)
 |succ n ih=>
  intro i h hn hi h0 h1
  have hw:wrap64 ((i:Int) + 1)=((i + 1:Nat):Int):=by rw [wrap_id (by omega) (by omega)];omega
  have hr:=bt_range s (i:Int)
  refine W.step (fun k=>by rw [impl_TreeHash.l0]) (W.yes (by omega) (W.yes (by omega) ?_))
  rw [hw,hash_next h0 h1 hr.1 hr.2,and32 _ (by omega) (by omega)]
  exact ih (i + 1) _ (by omega) (by omega) (Int.emod_nonneg _ (by omega)) (Int.emod_lt_of_pos _ (by omega))
theorem sHash_loop (s:ByteArray) (hs:s.size≤1000000000000): ∀ (n i:Nat) (h:Int),s.size - i=n→i≤s.size→0≤h→h < 4294967296→W (fun k=>spec_l01HashOn.l0 k h s (i:Int)) (· =hashN s n i h):=by
 intro n
 induction n with
 |zero=>
  intro i h hn hi h0 h1
  refine W.step (fun k=>by rw [spec_l01HashOn.l0]) ?_
  exact W.no (by omega) (W.pure rfl)
 |succ n ih=>
  intro i h hn hi h0 h1
  have hw:wrap64 ((i:Int) + 1)=((i + 1:Nat):Int):=by rw [wrap_id (by omega) (by omega)];omega
  have hr:=bt_range s (i:Int)
  refine W.step (fun k=>by rw [spec_l01HashOn.l0]) (W.yes (by omega) (W.yes (by omega) ?_))
  rw [hw,hash_next h0 h1 hr.1 hr.2,Int.tmod_eq_emod_of_nonneg (by omega)]
  exact ih (i + 1) _ (by omega) (by omega) (Int.emod_nonneg _ (by omega)) (Int.emod_lt_of_pos _ (by omega))
theorem okB_cnt {t:S26} (h:okB t=true):cnt t≤1000:=by
 unfold okB at h
 rw [Bool.and_eq_true] at h
 exact of_decide_eq_true h.1
def text8 (t:S26):ByteArray:=⟨(show8 t).toArray⟩
theorem text8_of {r:ByteArray} {t:S26} (h:r.data.toList=show8 t):r=text8 t:=by
 cases r with
 |mk d=>simp only at h;simp only [text8,← h]
theorem text8_size (t:S26):(text8 t).size=(show8 t).length:=rfl
theorem iTreeHash (t:S26) (hs:Small t) (ho:okB t=true):W (fun k=>impl_TreeHash.f k t.f0 t.f1 t.f2 t.f3) (· =(hashN (text8 t) (text8 t).size 0 5381,0)):=by
 have hc:=okB_cnt ho
 have hl:=show8_len t hs
 refine W.cong (fun k=>by rw [impl_TreeHash.f]) (W.bind ⟨_,iTreeOK t hs,ho⟩ (fun r hr=>W.yes hr (W.bind (iText t hs (by omega)) (fun s e=> ?_))))
 have e2:=text8_of e
 subst e2
 exact iHash_loop (text8 t) (by rw [text8_size];omega) _ 0 5381 (by omega) (by omega) (by omega) (by omega)
theorem sTreeHash (t:S26) (hs:Small t) (ho:okB t=true):W (fun k=>spec_TreeHash.f k t.f0 t.f1 t.f2 t.f3) (· =(hashN (text8 t) (text8 t).size 0 5381,0)):=by
 have hc:=okB_cnt ho
 have hl:=show8_len t hs
 refine W.cong (fun k=>by rw [spec_TreeHash.f]) (W.bind ⟨_,sTreeOK t hs,ho⟩ (fun r hr=>W.yes hr (W.bind (sShow t hs (by omega)) (fun s e=> ?_))))
 have e2:=text8_of e
 subst e2
 refine W.bind (W.cong (fun k=>by rw [spec_l01HashOn.f];rfl) (sHash_loop (text8 t) (by rw [text8_size];omega) _ 0 5381 rfl (by omega) (by omega) (by omega))) (fun h e=>W.pure ?_)
 rw [e]
 rfl
end Go.Proofs.Ytakpkmkjhndpjaa.Pure
end
section
namespace Go.Proofs.Ytakpkmkjhndpjaa.Pure
open Go.RowKit Go.Proofs.Ytakpkmkjhndpjaa.Q Go.Proofs.YtakpkmkjhndpjaaW.PrintWords Go.Proofs.YtakpkmkjhndpjaaW.PrintLast
theorem W.bindE {α β:Type} {F:Nat→Option α} {G:Nat→α→Option β} {a:α} {Q:β→Prop} (h:Ev F a) (g:W (fun k=>G k a) Q):W (fun k=>(F k).bind (G k)) Q:=by
 obtain ⟨r2,e2,p2⟩:=g
 exact ⟨r2,Ev.bind h e2,p2⟩
theorem small_z26:Small z26:=Small.mk _ _ _ _ (by simp) (by decide) (by decide) (fun x hx=>absurd hx List.not_mem_nil)
theorem tp_cases (t u:S26) (p:List Int):(∃ e,e≠0∧tp t p u=(z26,e))∨(okB t=true∧okB u=true∧(subT p t).isSome=true∧okB (putT u p t)=true∧tp t p u=(putT u p t,0)):=by
 unfold tp
 cases h1:okB t with
 |false=>exact .inl ⟨1,by decide,rfl⟩
 |true=>
  cases h2:okB u with
  |false=>exact .inl ⟨1,by decide,rfl⟩
  |true=>
   cases h3:(subT p t).isSome with
   |false=>exact .inl ⟨4,by decide,rfl⟩
   |true=>
    cases h4:okB (putT u p t) with
    |false=>exact .inl ⟨3,by decide,rfl⟩
    |true=>exact .inr ⟨rfl,rfl,rfl,rfl,rfl⟩
theorem sub_some {p:List Int} {t:S26} (h:(subT p t).isSome=true): ∃ s,subT p t=some s:=Option.isSome_iff_exists.mp h
section
variable {t u s:S26} {p:List Int} (ht:Small t) (hu:Small u) (hp:p.length≤4000) (h1:okB t=true) (hs:subT p t=some s) (h4:okB (putT u p t)=true)
include ht hu hp h1 hs h4
theorem put_last (i:Int):W (fun k=>laws_FnTreePut.j3 k p i false (putT u p t).f0 (putT u p t).f1 (putT u p t).f2 (putT u p t).f3 t.f0 t.f1 t.f2 t.f3) (· =true):=by
 have h3:(subT p t).isSome=true:=by rw [hs];rfl
 have hw:=small_put u hu p t ht h3
 have hss:=small_sub p t s ht hs
 have hos:=ok_sub p t s h1 hs
 have hso:subT p (putT u p t)=some u:=sub_put u p t h3
 have hb:putT s p (putT u p t)=t:=put_back u p t s hs
 have htp:tp (putT u p t) p s=(t,0):=by
  unfold tp
  rw [h4,hos,hso,hb,h1]
  rfl
 have e2:=iTreePut (putT u p t) s hw hss p hp
 rw [htp] at e2
 refine W.step (fun k=>by rw [laws_FnTreePut.j3]) (W.no Bool.false_ne_true (W.bindE (iTreeAt t ht h1 p hp s hs) (W.yes rfl (W.bindE e2 (W.yes rfl (W.bindE (sameTree_refl t ht) ?_))))))
 refine W.step (fun k=>by rw [laws_FnTreePut.j4]) ?_
 refine W.no Bool.false_ne_true (W.bindE (iTreeHash t ht h1).ev (W.bindE (sTreeHash t ht h1).ev (W.yes rfl (W.pure ?_))))
 exact beq_self_eq_true _
theorem put_loop (q:Int) (qs:List Int) (hq:p=q :: qs): ∀ (n i:Nat),t.f3.length - i=n→i≤t.f3.length→W (fun k=>laws_FnTreePut.l0 k p (i:Int) (putT u p t).f0 (putT u p t).f1 (putT u p t).f2 (putT u p t).f3 t.f0 t.f1 t.f2 t.f3) (· =true):=by
 have h3:(subT p t).isSome=true:=by rw [hs];rfl
 have hw:=small_put u hu p t ht h3
 have hlen:=ht.len
 have hsub:=h3
 rw [hq,subT_cons] at hsub
 have hr:0≤q∧q < (t.f3.length:Int):=by
  by_cases h:0≤q∧q < (t.f3.length:Int)
  ·exact h
  ·rw [if_neg h] at hsub
   exact absurd hsub (by decide)
 have hf:(putT u p t).f3=t.f3.set q.toNat (putT u qs (rd_T26 t.f3 q)):=by rw [hq,putT_cons]
 have hl3:(putT u p t).f3.length=t.f3.length:=by rw [hf,List.length_set]
 intro n
 induction n with
 |zero=>
  intro i hn hi
  refine W.step (fun k=>by rw [laws_FnTreePut.l0]) ?_
  exact W.no (by omega) (put_last ht hu hp h1 hs h4 _)
 |succ n ih=>
  intro i hn hi
  have hw1:wrap64 ((i:Int) + 1)=((i + 1:Nat):Int):=by rw [wrap_id (by omega) (by omega)];omega
  have hpos:(p.length:Int) > 0:=by rw [hq];simp only [List.length_cons];omega
  have hsi:subT [(i:Int)] (putT u p t)=some (rd_T26 (putT u p t).f3 (i:Int)):=by
   rw [subT_cons,if_pos ⟨by omega,by omega⟩]
   rfl
  refine W.step (fun k=>by rw [laws_FnTreePut.l0]) (W.yes (by omega) ?_)
  refine W.step (fun k=>by rw [laws_FnTreePut.j3]) ?_
  refine W.yes (decide_eq_true hpos) (W.bindE (iTreeAt (putT u p t) hw h4 [(i:Int)] (by simp) _ hsi) (W.yes rfl (W.yes hpos ?_)))
  rw [hw1]
  refine W.ite (fun _=>ih (i + 1) (by omega) (by omega)) (fun hne=>W.yes (by omega) (W.yes (by omega) ?_))
  have hne2:q≠(i:Int):=by
   intro e
   apply hne
   rw [hq,← e]
   rfl
  have heq:rd_T26 (putT u p t).f3 (i:Int)=rd_T26 t.f3 (i:Int):=by rw [hf];exact rd_set_ne _ _ _ _ hr.1 (by omega) hne2
  have hsk:Small (rd_T26 t.f3 (i:Int)):=ht.kid ⟨by omega,by omega⟩
  have es:=sameTree_refl _ hsk
  rw [heq]
  exact W.bindE es (W.yes rfl (ih (i + 1) (by omega) (by omega)))
end
theorem FnTreePut:laws_FnTreePut.Pure:=by
 intro l0 h1 h2 h3
 have hb: ∀ x∈l0,0≤x∧x < 256:=by
  intro x hx
  have:=h3 x hx
  simp [Lit.wf,IntKind.min,IntKind.max,IntKind.bits,IntKind.signed] at this
  omega
 suffices hW:W (fun k=>laws_FnTreePut.f k l0) (· =true) by
  obtain ⟨r,⟨k,e⟩,p⟩:=hW
  exact ⟨k,(e k (Nat.le_refl _)).trans (congrArg some p)⟩
 refine W.cong (fun k=>by rw [laws_FnTreePut.f]) ?_
 refine W.bindc (show laws_big.f l0=some (decide ((l0.length:Int) > 1048576)) from rfl) ?_
 by_cases hbig:(l0.length:Int) > 1048576
 ·exact W.yes (decide_eq_true hbig) (W.pure rfl)
 refine W.no (by simp only [decide_eq_true_eq];exact hbig) ?_
 obtain ⟨r,D,t,p,u,e,ht,hu,hp⟩:=drawTreePut_ev l0 hb (by omega)
 subst e
 refine W.bindE D (W.bindE D (W.bindE (sTreePut t u ht hu p hp) (W.bindE (iTreePut t u ht hu p hp) (W.yes rfl ?_))))
 rcases tp_cases t u p with ⟨e,he,htp⟩|⟨o1,o2,o3,o4,htp⟩
 ·rw [htp]
  refine W.bindE (sameTree_refl z26 small_z26) ?_
  refine W.step (fun k=>by rw [laws_FnTreePut.j0]) ?_
  exact W.no Bool.false_ne_true (W.no he (W.pure rfl))
 ·obtain ⟨s,hs⟩:=sub_some o3
  have hw:=small_put u hu p t ht o3
  rw [htp]
  refine W.bindE (sameTree_refl (putT u p t) hw) ?_
  refine W.step (fun k=>by rw [laws_FnTreePut.j0]) ?_
  refine W.no Bool.false_ne_true (W.yes rfl (W.bindE D (W.bindE (iTreeAt (putT u p t) hw o4 p hp u (sub_put u p t o3)) (W.yes rfl (W.bindE (sameTree_refl u hu) ?_)))))
  refine W.step (fun k=>by rw [laws_FnTreePut.j1]) ?_
  refine W.no Bool.false_ne_true ?_
  cases hpc:p with
  |nil=>
   rw [hpc] at hs o4 hp
   refine W.step (fun k=>by rw [laws_FnTreePut.l0]) ?_
   refine W.ite (fun _=> ?_) (fun _=> ?_)
   ·exact put_last ht hu hp o1 hs o4 _
   ·exact put_last ht hu hp o1 hs o4 _
  |cons q qs=>
   rw [← hpc]
   exact put_loop ht hu hp o1 hs o4 q qs hpc _ 0 rfl (by omega)
end Go.Proofs.Ytakpkmkjhndpjaa.Pure
end
