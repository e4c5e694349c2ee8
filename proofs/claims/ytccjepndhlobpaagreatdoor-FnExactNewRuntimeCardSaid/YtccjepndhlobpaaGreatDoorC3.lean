/-
  Plain facts and facts on memory that the walks lean on.
-/
import Derived.Test.YtccjepndhlobpaaGreatDoorC2
/-
  Walks: bigraphs are valid.
-/
namespace Go.Proofs.YtccjepndhlobpaaGreatDoor
open Go.RowKit
set_option linter.unusedVariables false
set_option linter.unusedSimpArgs false

attribute [local irreducible] inR nameB strLt sigB namesB underB linkB siteOk wireOk sgAt
set_option maxRecDepth 100000 in
set_option maxHeartbeats 6400000 in
theorem c_impl_IsBigraph (lo hi lo' hi':Nat) (v:Value) (sig:List Ctl) (cs:List Value) (b:Big) (w:World) (h:CtlsV lo hi w v sig) (hb:BigP lo' hi' w cs b) (hlen:b.inner.length≤1048576) :
 Calls Tryz.prog 120 #[v,.agg cs.toArray] w fun e w'=>e=.returned (.bool (bigB sig b))∧Ext w w':=by
 have hV:=h
 have hB:=hb
 obtain ⟨a,k,rfl,m1,m2,m3,m4⟩:=h
 obtain ⟨v1,v2,v4,v5,rfl,r1,r2,hN,hS,hO,hI⟩:=hb
 obtain ⟨a1,k1,rfl,g1,g2,g3,g4⟩:=hN
 obtain ⟨a2,k2,rfl,n1,n2,n3,_⟩:=id hS
 obtain ⟨a4,k4,rfl,o1,o2,o3,_⟩:=id hO
 obtain ⟨a5,k5,rfl,l1,l2,l3,_⟩:=id hI
 unfold maxLen at g2 m2 n2 o2 l2
 obtain ⟨W0,hW0,hbx0,hx0,hz0⟩:=box_facts w [.slice a sig.length k] 38
 obtain ⟨W1,hW1,hbx1,hx1,hz1⟩:=box_facts W0 [.int .i64 b.roots,.slice a1 b.nodes.length k1,.slice a2 b.sites.length k2,.int .i64 b.edges,.slice a4 b.outer.length k4,.slice a5 b.inner.length k5] 44
 have ps:=hx1.keep (hbx0 0 _ rfl).1
 have hbb:∀j u,([.int .i64 b.roots,.slice a1 b.nodes.length k1,.slice a2 b.sites.length k2,.int .i64 b.edges,.slice a4 b.outer.length k4,.slice a5 b.inner.length k5]:List Value)[j]? = some u→W1.cell? ⟨W0.heap.size,j,none⟩=some u:=fun j u hj=>(hbx1 j u hj).1
 have p0:=hbb 0 _ rfl
 have p1:=hbb 1 _ rfl
 have p2:=hbb 2 _ rfl
 have p3:=hbb 3 _ rfl
 have p4:=hbb 4 _ rfl
 have p5:=hbb 5 _ rfl
 have hzz:w.heap.size<W0.heap.size:=by omega
 clear hz0 hz1 hbx0 hbx1
 have hx01:=hx0.trans hx1
 replace hV:=hV.ext CtlP.keeps hx01
 replace hB:=BigP.keeps _ _ _ _ _ _ (Same.ext hx01) hB
 replace hS:=hS.ext IntP.keeps hx01
 replace hO:=hO.ext StrP.keeps hx01
 replace hI:=hI.ext WrP.keeps hx01
 have HBB:=Lib.hid hbb
 clear hbb
 go_enter Tryz.func120,Tryz.ntmps120
 have Hr:=Lib.hid trivial
 have hn:True:=trivial
 have hs:True:=trivial
 have He:=Lib.hid trivial
 have Ho:=Lib.hid trivial
 have Hi:=Lib.hid trivial
 cases ha:sigB sig
 have Ha:=Lib.hid ha;clear ha
 have isF:=trivial
 rotate_left
 have Ha:=Lib.hid ha;clear ha
 have hsl:=sigB_len Ha.out
 cases hr:inR b.roots 0 4
 have Hr:=Lib.hid hr;clear hr
 have isF:=trivial
 rotate_left
 have Hr:=Lib.hid hr;clear hr
 by_cases hn:8<b.nodes.length
 have en:decide (8<b.nodes.length)=true:=decide_eq_true hn
 have isF:=trivial
 rotate_left
 have en:decide (8<b.nodes.length)=false:=decide_eq_false hn
 by_cases hs:4<b.sites.length
 have es:decide (4<b.sites.length)=true:=decide_eq_true hs
 have isF:=trivial
 rotate_left
 have es:decide (4<b.sites.length)=false:=decide_eq_false hs
 cases he:inR b.edges 0 8
 have He:=Lib.hid he;clear he
 have isF:=trivial
 rotate_left
 have He:=Lib.hid he;clear he
 cases ho:namesB b.outer
 have Ho:=Lib.hid ho;clear ho
 have isF:=trivial
 rotate_left
 have Ho:=Lib.hid ho;clear ho
 cases hi:namesB (b.inner.map Wr.name)
 have Hi:=Lib.hid hi;clear hi
 have isF:=trivial
 rotate_left
 have Hi:=Lib.hid hi;clear hi
 all_goals go_wp2_with (first|(go_at_call 178;(refine (c_impl_areNames _ _ _ _ _ hIN).mono ?_);rintro e y ⟨rfl,hb⟩;rw [Hi.out];replace ps:=Ext.keep hb ps;replace p0:=Ext.keep hb p0;replace p1:=Ext.keep hb p1;replace p2:=Ext.keep hb p2;replace p3:=Ext.keep hb p3;replace p4:=Ext.keep hb p4;replace p5:=Ext.keep hb p5;replace hV:=hV.ext CtlP.keeps hb;replace hB:=BigP.keeps _ _ _ _ _ _ (Same.ext hb) hB;replace hS:=hS.ext IntP.keeps hb;replace hO:=hO.ext StrP.keeps hb;replace hI:=hI.ext WrP.keeps hb)|(go_at_call 178;(refine (c_impl_areNames lo' hi' _ _ _ hO).mono ?_);rintro e y ⟨rfl,hb⟩;rw [Ho.out];replace ps:=Ext.keep hb ps;replace p0:=Ext.keep hb p0;replace p1:=Ext.keep hb p1;replace p2:=Ext.keep hb p2;replace p3:=Ext.keep hb p3;replace p4:=Ext.keep hb p4;replace p5:=Ext.keep hb p5;replace hV:=hV.ext CtlP.keeps hb;replace hB:=BigP.keeps _ _ _ _ _ _ (Same.ext hb) hB;replace hS:=hS.ext IntP.keeps hb;replace hO:=hO.ext StrP.keeps hb;replace hI:=hI.ext WrP.keeps hb)|(go_at_call 55;(refine (c_impl_within _ _ _ _).mono ?_);rintro e y ⟨rfl,rfl⟩;rw [He.out])|(go_at_call 55;(refine (c_impl_within _ _ _ _).mono ?_);rintro e y ⟨rfl,rfl⟩;rw [Hr.out])|(go_at_call 109;(refine (c_impl_IsSignature lo hi _ _ _ hV).mono ?_);rintro e y ⟨rfl,hb⟩;rw [Ha.out];replace ps:=Ext.keep hb ps;replace p0:=Ext.keep hb p0;replace p1:=Ext.keep hb p1;replace p2:=Ext.keep hb p2;replace p3:=Ext.keep hb p3;replace p4:=Ext.keep hb p4;replace p5:=Ext.keep hb p5;replace hV:=hV.ext CtlP.keeps hb;replace hB:=BigP.keeps _ _ _ _ _ _ (Same.ext hb) hB;replace hS:=hS.ext IntP.keeps hb;replace hO:=hO.ext StrP.keeps hb;replace hI:=hI.ext WrP.keeps hb)|(go_at_call 179;refine (c_impl_Bigraph_innerNames lo' hi' [.int .i64 b.roots,.slice a1 b.nodes.length k1,.slice a2 b.sites.length k2,.int .i64 b.edges,.slice a4 b.outer.length k4,.slice a5 b.inner.length k5] b _ hB hlen).mono ?_;rintro e y ⟨v9,rfl,hIN,hb⟩;replace ps:=Ext.keep hb ps;replace p0:=Ext.keep hb p0;replace p1:=Ext.keep hb p1;replace p2:=Ext.keep hb p2;replace p3:=Ext.keep hb p3;replace p4:=Ext.keep hb p4;replace p5:=Ext.keep hb p5;replace hV:=hV.ext CtlP.keeps hb;replace hB:=BigP.keeps _ _ _ _ _ _ (Same.ext hb) hB;replace hS:=hS.ext IntP.keeps hb;replace hO:=hO.ext StrP.keeps hb;replace hI:=hI.ext WrP.keeps hb))
 all_goals first|(have:=isF;go_ret;exact ⟨ret_bool (bigB_nohead (by unfold headB;simp [Ha.out,Hr.out,hn,hs,He.out,Ho.out,Hi.out];try omega)).symm,xw⟩)|skip
 have HH:=Lib.hid (show headB sig b=true by unfold headB;rw [Ha.out,Hr.out,He.out,Ho.out,Hi.out];simp;omega)
 clear hIN
 obtain ⟨_,hr,_,_,he,hno,_⟩:=headB_parts HH.out
 have HR:=Lib.hid hr
 have HE:=Lib.hid he
 have hol:b.outer.length≤1000:=by have:=namesB_len hno;omega
 clear hr he hno
 have eg1:∀args w,(callFunc 181 args).run Tryz.prog w=.ok (.enter 181 args) w:=enters_of Tryz.func181 (by kernel_rfl) rfl
 have eg2:∀args w,(callFunc 183 args).run Tryz.prog w=.ok (.enter 183 args) w:=enters_of Tryz.func183 (by kernel_rfl) rfl
 have eg3:∀args w,(callFunc 185 args).run Tryz.prog w=.ok (.enter 185 args) w:=enters_of Tryz.func185 (by kernel_rfl) rfl
 have hY1:Ext W1 y:=xw
 go_loopw [49] (fun c wr=>∃i:Nat,c=.int .i64 i∧i≤b.nodes.length∧(List.range i).all (nodeOk sig b)=true∧Ext y wr) (fun c _=>b.nodes.length - (intOf c).toNat)
 case atStart=>exact ⟨0,rfl,Nat.zero_le _,rfl,Ext.refl _⟩
 case round=>
  obtain ⟨i,rfl,hi0,hok,hx⟩:=hrel
  have HOK:=Lib.hid hok
  clear hok
  have hX1:Ext W1 wr:=hY1.trans hx
  have hX:Ext w wr:=hx01.trans hX1
  replace ps:=hx.keep ps
  replace p0:=hx.keep p0
  replace p1:=hx.keep p1
  replace p2:=hx.keep p2
  replace p3:=hx.keep p3
  replace p4:=hx.keep p4
  replace p5:=hx.keep p5
  replace hV:=hV.ext CtlP.keeps hx
  replace hB:=BigP.keeps _ _ _ _ _ _ (Same.ext hx) hB
  by_cases hlt:i<b.nodes.length
  ·have hbad:=bigB_nonode (sig:=sig) i hlt
   have HA:=Lib.hid (nodeOk_at sig b i hlt)
   have HS:=Lib.hid (range_all_succ (nodeOk sig b) i)
   have hC:=CtlIn_of HOK.out
   have HSG:=Lib.hid (sgAt_nat sig)
   rcases g4 with g4|⟨b1,o1,rfl,gb1,gb2,g4⟩
   ·rw [g4] at hlt;simp at hlt
   obtain ⟨cs,hl,hnp,hc⟩:=g4 i hlt
   generalize hnd:b.nodes[i]=nd at hnp HA
   obtain ⟨nc,np,nl⟩:=nd
   obtain ⟨nv,rfl,e1,e2,e3⟩:=hnp
   have q0:=hX.keep (hc 0 _ rfl)
   have q1:=hX.keep (hc 1 _ rfl)
   have q2:=hX.keep (hc 2 _ rfl)
   rw [Nat.add_zero] at q0
   have hLV:=e3.ext IntP.keeps hX
   obtain ⟨la,lk,rfl,y1,y2,y3,_⟩:=e3
   dsimp only at *
   unfold maxLen at y2
   clear hc g4 hnd
   unfold I64 at e1
   have hsw:=IntWalk.i64_in ((sig.length:Int) - 1) (by omega)
   cases hc:inR nc 0 ((sig.length:Int) - 1)
   ·have Hc:=Lib.hid hc
    clear hc
    have HB:=Lib.hid (hbad (by rw [HA.out];first|(rw [HK.out];simp [Hc.out];done)|simp [Hc.out]))
    clear hbad
    go_wp2_with fail
    refine wp_region_held_drew (S:=(fun w'=>BoxAt w' wr.heap.size [.int .i64 nc,.int .i64 np,.slice la nl.length lk]∧Ext wr w')) (by kernel_rfl) ?_ (fun hHeld=>?_)
    ·(refine ⟨?_,xw⟩;all_goals (intro j u hj;rcases j with _|_|_|_|_|_|_|_|j <;> simp at hj <;> (subst hj;simp)))
    refine tkP 0 ?_ ?_ ?_;rotate_left;focus (intro w;go_simp;try with_reducible rfl)
    try simp only [Act.put,aput]
    refine tkY 1 ?_ ?_ ?_;rotate_left;focus (intro w hSw;(try dsimp only at hSw);obtain ⟨bx0,sx⟩:=hSw;have c0_0:=(bx0 0 _ rfl).1;have c0_1:=(bx0 1 _ rfl).1;have c0_2:=(bx0 2 _ rfl).1;have s_ps:=Ext.keep sx ps;have s_p0:=Ext.keep sx p0;have s_p1:=Ext.keep sx p1;have s_p2:=Ext.keep sx p2;have s_p3:=Ext.keep sx p3;have s_p4:=Ext.keep sx p4;have s_p5:=Ext.keep sx p5;(try have s_s1:=Ext.keep sx s1);go_simp;try with_reducible rfl)
    try simp only [Act.put,aput]
    refine tkY 2 ?_ ?_ ?_;rotate_left;focus (intro w hSw;(try dsimp only at hSw);obtain ⟨bx0,sx⟩:=hSw;have c0_0:=(bx0 0 _ rfl).1;have c0_1:=(bx0 1 _ rfl).1;have c0_2:=(bx0 2 _ rfl).1;have s_ps:=Ext.keep sx ps;have s_p0:=Ext.keep sx p0;have s_p1:=Ext.keep sx p1;have s_p2:=Ext.keep sx p2;have s_p3:=Ext.keep sx p3;have s_p4:=Ext.keep sx p4;have s_p5:=Ext.keep sx p5;(try have s_s1:=Ext.keep sx s1);go_simp;try with_reducible rfl)
    try simp only [Act.put,aput]
    refine tkP 3 ?_ ?_ ?_;rotate_left;focus (intro w;go_simp;try with_reducible rfl)
    try simp only [Act.put,aput]
    refine tkP 4 ?_ ?_ ?_;rotate_left;focus (intro w;go_simp;try with_reducible rfl)
    try simp only [Act.put,aput]
    refine wpAnyH_ready (rs:=[5]) (by kernel_rfl) (by simp) ?_
    refine AllReadyH.cons rfl (fun K hK=>?_) AllReadyH.nil
    (try simp only [aput])
    go_simp
    (go_at_call 55;(refine (c_impl_within _ _ _ _).mono ?_);rintro e y ⟨rfl,rfl⟩;rw [Hc.out])
    show K _ _
    refine hK.out _ _ (by exact hHeld) (fun hHeld=>?_)
    clear hK K
    try simp only [Act.put,aput]
    refine tkP 6 ?_ ?_ ?_;rotate_left;focus (intro w;go_simp;try with_reducible rfl)
    try simp only [Act.put,aput]
    refine tkP 7 ?_ ?_ ?_;rotate_left;focus (intro w;go_simp;try with_reducible rfl)
    try simp only [Act.put,aput]
    refine tkN 8 ?_
    try simp only [Act.put,aput]
    refine tkN 9 ?_
    try simp only [Act.put,aput]
    refine tkN 10 ?_
    try simp only [Act.put,aput]
    refine tkN 11 ?_
    try simp only [Act.put,aput]
    refine tkN 12 ?_
    try simp only [Act.put,aput]
    refine tkN 13 ?_
    try simp only [Act.put,aput]
    refine tkN 14 ?_
    try simp only [Act.put,aput]
    refine tkP 15 ?_ ?_ ?_;rotate_left;focus (intro w;go_simp;try with_reducible rfl)
    try simp only [Act.put,aput]
    refine tkP 16 ?_ ?_ ?_;rotate_left;focus (intro w;go_simp;try with_reducible rfl)
    try simp only [Act.put,aput]
    refine tkN 17 ?_
    try simp only [Act.put,aput]
    refine tkN 18 ?_
    try simp only [Act.put,aput]
    refine tkN 19 ?_
    try simp only [Act.put,aput]
    refine tkN 20 ?_
    try simp only [Act.put,aput]
    refine tkN 21 ?_
    try simp only [Act.put,aput]
    refine tkN 22 ?_
    try simp only [Act.put,aput]
    refine tkN 23 ?_
    try simp only [Act.put,aput]
    refine tkN 24 ?_
    try simp only [Act.put,aput]
    refine tkN 25 ?_
    try simp only [Act.put,aput]
    refine tkN 26 ?_
    try simp only [Act.put,aput]
    refine tkP 27 ?_ ?_ ?_;rotate_left;focus (intro w;go_simp;try with_reducible rfl)
    try simp only [Act.put,aput]
    refine tkP 28 ?_ ?_ ?_;rotate_left;focus (intro w;go_simp;try with_reducible rfl)
    try simp only [Act.put,aput]
    refine tkN 29 ?_
    try simp only [Act.put,aput]
    refine tkN 30 ?_
    try simp only [Act.put,aput]
    refine tkN 31 ?_
    try simp only [Act.put,aput]
    refine tkN 32 ?_
    try simp only [Act.put,aput]
    refine tkP 33 ?_ ?_ ?_;rotate_left;focus (intro w;go_simp;try with_reducible rfl)
    try simp only [Act.put,aput]
    refine wpAnyH_done (by kernel_rfl) ?_ _
    all_goals go_wp2
    all_goals go_ret
    all_goals exact ⟨ret_bool HB.out.symm,xw⟩
   have Hc:=Lib.hid hc
   clear hc
   obtain ⟨hc0,hc1⟩:=inR_le Hc.out;obtain ⟨m,rfl⟩:=Int.eq_ofNat_of_zero_le hc0;have hml:m<sig.length:=(by omega);rcases m4 with m4|⟨b2,o2,rfl,mb1,mb2,m4⟩;(exfalso;rw [m4] at hml;simp at hml);obtain ⟨ds,dl,⟨rfl,d1,d2,d3⟩,hds⟩:=m4 m hml;have s1:=hX.keep (hds 1 _ rfl);have HK:=Lib.hid (HSG.out m hml);clear hds m4;unfold I64 at d2;have jm0:(0:Int)≤(m:Int):=(by omega);have jm1:(m:Int)<(sig.length:Int):=(by omega)
   cases hu:underB sig b np i
   ·have Hu:=Lib.hid hu
    clear hu
    have HB:=Lib.hid (hbad (by rw [HA.out];first|(rw [HK.out];simp [Hc.out,Hu.out];done)|simp [Hc.out,Hu.out]))
    clear hbad
    go_wp2_with fail
    refine wp_region_held_drew (S:=(fun w'=>BoxAt w' wr.heap.size [.int .i64 (m:Int),.int .i64 np,.slice la nl.length lk]∧Ext wr w')) (by kernel_rfl) ?_ (fun hHeld=>?_)
    ·(refine ⟨?_,xw⟩;all_goals (intro j u hj;rcases j with _|_|_|_|_|_|_|_|j <;> simp at hj <;> (subst hj;simp)))
    refine tkP 0 ?_ ?_ ?_;rotate_left;focus (intro w;go_simp;try with_reducible rfl)
    try simp only [Act.put,aput]
    refine tkY 1 ?_ ?_ ?_;rotate_left;focus (intro w hSw;(try dsimp only at hSw);obtain ⟨bx0,sx⟩:=hSw;have c0_0:=(bx0 0 _ rfl).1;have c0_1:=(bx0 1 _ rfl).1;have c0_2:=(bx0 2 _ rfl).1;have s_ps:=Ext.keep sx ps;have s_p0:=Ext.keep sx p0;have s_p1:=Ext.keep sx p1;have s_p2:=Ext.keep sx p2;have s_p3:=Ext.keep sx p3;have s_p4:=Ext.keep sx p4;have s_p5:=Ext.keep sx p5;(try have s_s1:=Ext.keep sx s1);go_simp;try with_reducible rfl)
    try simp only [Act.put,aput]
    refine tkY 2 ?_ ?_ ?_;rotate_left;focus (intro w hSw;(try dsimp only at hSw);obtain ⟨bx0,sx⟩:=hSw;have c0_0:=(bx0 0 _ rfl).1;have c0_1:=(bx0 1 _ rfl).1;have c0_2:=(bx0 2 _ rfl).1;have s_ps:=Ext.keep sx ps;have s_p0:=Ext.keep sx p0;have s_p1:=Ext.keep sx p1;have s_p2:=Ext.keep sx p2;have s_p3:=Ext.keep sx p3;have s_p4:=Ext.keep sx p4;have s_p5:=Ext.keep sx p5;(try have s_s1:=Ext.keep sx s1);go_simp;try with_reducible rfl)
    try simp only [Act.put,aput]
    refine tkP 3 ?_ ?_ ?_;rotate_left;focus (intro w;go_simp;try with_reducible rfl)
    try simp only [Act.put,aput]
    refine tkP 4 ?_ ?_ ?_;rotate_left;focus (intro w;go_simp;try with_reducible rfl)
    try simp only [Act.put,aput]
    refine wpAnyH_ready (rs:=[5]) (by kernel_rfl) (by simp) ?_
    refine AllReadyH.cons rfl (fun K hK=>?_) AllReadyH.nil
    (try simp only [aput])
    go_simp
    (go_at_call 55;(refine (c_impl_within _ _ _ _).mono ?_);rintro e y ⟨rfl,rfl⟩;rw [Hc.out])
    show K _ _
    refine hK.out _ _ (by exact hHeld) (fun hHeld=>?_)
    clear hK K
    try simp only [Act.put,aput]
    refine tkP 6 ?_ ?_ ?_;rotate_left;focus (intro w;go_simp;try with_reducible rfl)
    try simp only [Act.put,aput]
    refine tkP 7 ?_ ?_ ?_;rotate_left;focus (intro w;go_simp;try with_reducible rfl)
    try simp only [Act.put,aput]
    refine tkY 8 ?_ ?_ ?_;rotate_left;focus (intro w hSw;(try dsimp only at hSw);obtain ⟨bx0,sx⟩:=hSw;have c0_0:=(bx0 0 _ rfl).1;have c0_1:=(bx0 1 _ rfl).1;have c0_2:=(bx0 2 _ rfl).1;have s_ps:=Ext.keep sx ps;have s_p0:=Ext.keep sx p0;have s_p1:=Ext.keep sx p1;have s_p2:=Ext.keep sx p2;have s_p3:=Ext.keep sx p3;have s_p4:=Ext.keep sx p4;have s_p5:=Ext.keep sx p5;(try have s_s1:=Ext.keep sx s1);go_simp;try with_reducible rfl)
    try simp only [Act.put,aput]
    refine tkY 9 ?_ ?_ ?_;rotate_left;focus (intro w hSw;(try dsimp only at hSw);obtain ⟨bx0,sx⟩:=hSw;have c0_0:=(bx0 0 _ rfl).1;have c0_1:=(bx0 1 _ rfl).1;have c0_2:=(bx0 2 _ rfl).1;have s_ps:=Ext.keep sx ps;have s_p0:=Ext.keep sx p0;have s_p1:=Ext.keep sx p1;have s_p2:=Ext.keep sx p2;have s_p3:=Ext.keep sx p3;have s_p4:=Ext.keep sx p4;have s_p5:=Ext.keep sx p5;(try have s_s1:=Ext.keep sx s1);go_simp;try with_reducible rfl)
    try simp only [Act.put,aput]
    refine tkP 10 ?_ ?_ ?_;rotate_left;focus (intro w;go_simp;try with_reducible rfl)
    try simp only [Act.put,aput]
    refine tkY 11 ?_ ?_ ?_;rotate_left;focus (intro w hSw;(try dsimp only at hSw);obtain ⟨bx0,sx⟩:=hSw;have c0_0:=(bx0 0 _ rfl).1;have c0_1:=(bx0 1 _ rfl).1;have c0_2:=(bx0 2 _ rfl).1;have s_ps:=Ext.keep sx ps;have s_p0:=Ext.keep sx p0;have s_p1:=Ext.keep sx p1;have s_p2:=Ext.keep sx p2;have s_p3:=Ext.keep sx p3;have s_p4:=Ext.keep sx p4;have s_p5:=Ext.keep sx p5;(try have s_s1:=Ext.keep sx s1);go_simp;try with_reducible rfl)
    try simp only [Act.put,aput]
    refine tkP 12 ?_ ?_ ?_;rotate_left;focus (intro w;go_simp;try with_reducible rfl)
    try simp only [Act.put,aput]
    refine wpAnyH_ready (rs:=[13]) (by kernel_rfl) (by simp) ?_
    refine AllReadyH.cons rfl (fun K hK=>?_) AllReadyH.nil
    (try simp only [aput])
    go_simp
    (have hSw:=hHeld;(try dsimp only at hSw);obtain ⟨bx0,sx⟩:=hSw;have c0_0:=(bx0 0 _ rfl).1;have c0_1:=(bx0 1 _ rfl).1;have c0_2:=(bx0 2 _ rfl).1;have s_ps:=Ext.keep sx ps;have s_p0:=Ext.keep sx p0;have s_p1:=Ext.keep sx p1;have s_p2:=Ext.keep sx p2;have s_p3:=Ext.keep sx p3;have s_p4:=Ext.keep sx p4;have s_p5:=Ext.keep sx p5;(try have s_s1:=Ext.keep sx s1);have s_hV:=hV.ext CtlP.keeps sx;have s_hB:=BigP.keeps _ _ _ _ _ _ (Same.ext sx) hB;have s_hLV:=hLV.ext IntP.keeps sx;go_at_call 180;(refine (c_impl_Bigraph_isParent lo hi lo' hi' _ sig _ b _ _ _ s_hV s_hB e2 HR.out (by omega) hC).mono ?_);rintro e y ⟨rfl,hb⟩;rw [Hu.out])
    show K _ _
    refine hK.out _ _ (by (have hh:=hHeld;(try dsimp only at hh);exact ⟨hh.1.ext hb,hh.2.trans hb⟩)) (fun hHeld=>?_)
    clear hK K
    try simp only [Act.put,aput]
    refine tkP 14 ?_ ?_ ?_;rotate_left;focus (intro w;go_simp;try with_reducible rfl)
    try simp only [Act.put,aput]
    refine tkP 15 ?_ ?_ ?_;rotate_left;focus (intro w;go_simp;try with_reducible rfl)
    try simp only [Act.put,aput]
    refine tkP 16 ?_ ?_ ?_;rotate_left;focus (intro w;go_simp;try with_reducible rfl)
    try simp only [Act.put,aput]
    refine tkN 17 ?_
    try simp only [Act.put,aput]
    refine tkN 18 ?_
    try simp only [Act.put,aput]
    refine tkN 19 ?_
    try simp only [Act.put,aput]
    refine tkN 20 ?_
    try simp only [Act.put,aput]
    refine tkN 21 ?_
    try simp only [Act.put,aput]
    refine tkN 22 ?_
    try simp only [Act.put,aput]
    refine tkN 23 ?_
    try simp only [Act.put,aput]
    refine tkN 24 ?_
    try simp only [Act.put,aput]
    refine tkN 25 ?_
    try simp only [Act.put,aput]
    refine tkN 26 ?_
    try simp only [Act.put,aput]
    refine tkP 27 ?_ ?_ ?_;rotate_left;focus (intro w;go_simp;try with_reducible rfl)
    try simp only [Act.put,aput]
    refine tkP 28 ?_ ?_ ?_;rotate_left;focus (intro w;go_simp;try with_reducible rfl)
    try simp only [Act.put,aput]
    refine tkN 29 ?_
    try simp only [Act.put,aput]
    refine tkN 30 ?_
    try simp only [Act.put,aput]
    refine tkN 31 ?_
    try simp only [Act.put,aput]
    refine tkN 32 ?_
    try simp only [Act.put,aput]
    refine tkP 33 ?_ ?_ ?_;rotate_left;focus (intro w;go_simp;try with_reducible rfl)
    try simp only [Act.put,aput]
    refine wpAnyH_done (by kernel_rfl) ?_ _
    all_goals go_wp2
    all_goals go_ret
    all_goals exact ⟨ret_bool HB.out.symm,xw⟩
   have Hu:=Lib.hid hu
   clear hu
   by_cases hl:((nl.length:Int))=((sig[m]).ports)
   rotate_left
   ·have el:(((nl.length:Int)) != ((sig[m]).ports))=true:=bne_iff_ne.2 hl
    have Hl:=Lib.hid hl
    clear hl
    have HB:=Lib.hid (hbad (by rw [HA.out];first|(rw [HK.out];simp [Hc.out,Hu.out,Hl.out];done)|simp [Hc.out,Hu.out,Hl.out]))
    clear hbad
    go_wp2_with fail
    refine wp_region_held_drew (S:=(fun w'=>BoxAt w' wr.heap.size [.int .i64 (m:Int),.int .i64 np,.slice la nl.length lk]∧Ext wr w')) (by kernel_rfl) ?_ (fun hHeld=>?_)
    ·(refine ⟨?_,xw⟩;all_goals (intro j u hj;rcases j with _|_|_|_|_|_|_|_|j <;> simp at hj <;> (subst hj;simp)))
    refine tkP 0 ?_ ?_ ?_;rotate_left;focus (intro w;go_simp;try with_reducible rfl)
    try simp only [Act.put,aput]
    refine tkY 1 ?_ ?_ ?_;rotate_left;focus (intro w hSw;(try dsimp only at hSw);obtain ⟨bx0,sx⟩:=hSw;have c0_0:=(bx0 0 _ rfl).1;have c0_1:=(bx0 1 _ rfl).1;have c0_2:=(bx0 2 _ rfl).1;have s_ps:=Ext.keep sx ps;have s_p0:=Ext.keep sx p0;have s_p1:=Ext.keep sx p1;have s_p2:=Ext.keep sx p2;have s_p3:=Ext.keep sx p3;have s_p4:=Ext.keep sx p4;have s_p5:=Ext.keep sx p5;(try have s_s1:=Ext.keep sx s1);go_simp;try with_reducible rfl)
    try simp only [Act.put,aput]
    refine tkY 2 ?_ ?_ ?_;rotate_left;focus (intro w hSw;(try dsimp only at hSw);obtain ⟨bx0,sx⟩:=hSw;have c0_0:=(bx0 0 _ rfl).1;have c0_1:=(bx0 1 _ rfl).1;have c0_2:=(bx0 2 _ rfl).1;have s_ps:=Ext.keep sx ps;have s_p0:=Ext.keep sx p0;have s_p1:=Ext.keep sx p1;have s_p2:=Ext.keep sx p2;have s_p3:=Ext.keep sx p3;have s_p4:=Ext.keep sx p4;have s_p5:=Ext.keep sx p5;(try have s_s1:=Ext.keep sx s1);go_simp;try with_reducible rfl)
    try simp only [Act.put,aput]
    refine tkP 3 ?_ ?_ ?_;rotate_left;focus (intro w;go_simp;try with_reducible rfl)
    try simp only [Act.put,aput]
    refine tkP 4 ?_ ?_ ?_;rotate_left;focus (intro w;go_simp;try with_reducible rfl)
    try simp only [Act.put,aput]
    refine wpAnyH_ready (rs:=[5]) (by kernel_rfl) (by simp) ?_
    refine AllReadyH.cons rfl (fun K hK=>?_) AllReadyH.nil
    (try simp only [aput])
    go_simp
    (go_at_call 55;(refine (c_impl_within _ _ _ _).mono ?_);rintro e y ⟨rfl,rfl⟩;rw [Hc.out])
    show K _ _
    refine hK.out _ _ (by exact hHeld) (fun hHeld=>?_)
    clear hK K
    try simp only [Act.put,aput]
    refine tkP 6 ?_ ?_ ?_;rotate_left;focus (intro w;go_simp;try with_reducible rfl)
    try simp only [Act.put,aput]
    refine tkP 7 ?_ ?_ ?_;rotate_left;focus (intro w;go_simp;try with_reducible rfl)
    try simp only [Act.put,aput]
    refine tkY 8 ?_ ?_ ?_;rotate_left;focus (intro w hSw;(try dsimp only at hSw);obtain ⟨bx0,sx⟩:=hSw;have c0_0:=(bx0 0 _ rfl).1;have c0_1:=(bx0 1 _ rfl).1;have c0_2:=(bx0 2 _ rfl).1;have s_ps:=Ext.keep sx ps;have s_p0:=Ext.keep sx p0;have s_p1:=Ext.keep sx p1;have s_p2:=Ext.keep sx p2;have s_p3:=Ext.keep sx p3;have s_p4:=Ext.keep sx p4;have s_p5:=Ext.keep sx p5;(try have s_s1:=Ext.keep sx s1);go_simp;try with_reducible rfl)
    try simp only [Act.put,aput]
    refine tkY 9 ?_ ?_ ?_;rotate_left;focus (intro w hSw;(try dsimp only at hSw);obtain ⟨bx0,sx⟩:=hSw;have c0_0:=(bx0 0 _ rfl).1;have c0_1:=(bx0 1 _ rfl).1;have c0_2:=(bx0 2 _ rfl).1;have s_ps:=Ext.keep sx ps;have s_p0:=Ext.keep sx p0;have s_p1:=Ext.keep sx p1;have s_p2:=Ext.keep sx p2;have s_p3:=Ext.keep sx p3;have s_p4:=Ext.keep sx p4;have s_p5:=Ext.keep sx p5;(try have s_s1:=Ext.keep sx s1);go_simp;try with_reducible rfl)
    try simp only [Act.put,aput]
    refine tkP 10 ?_ ?_ ?_;rotate_left;focus (intro w;go_simp;try with_reducible rfl)
    try simp only [Act.put,aput]
    refine tkY 11 ?_ ?_ ?_;rotate_left;focus (intro w hSw;(try dsimp only at hSw);obtain ⟨bx0,sx⟩:=hSw;have c0_0:=(bx0 0 _ rfl).1;have c0_1:=(bx0 1 _ rfl).1;have c0_2:=(bx0 2 _ rfl).1;have s_ps:=Ext.keep sx ps;have s_p0:=Ext.keep sx p0;have s_p1:=Ext.keep sx p1;have s_p2:=Ext.keep sx p2;have s_p3:=Ext.keep sx p3;have s_p4:=Ext.keep sx p4;have s_p5:=Ext.keep sx p5;(try have s_s1:=Ext.keep sx s1);go_simp;try with_reducible rfl)
    try simp only [Act.put,aput]
    refine tkP 12 ?_ ?_ ?_;rotate_left;focus (intro w;go_simp;try with_reducible rfl)
    try simp only [Act.put,aput]
    refine wpAnyH_ready (rs:=[13]) (by kernel_rfl) (by simp) ?_
    refine AllReadyH.cons rfl (fun K hK=>?_) AllReadyH.nil
    (try simp only [aput])
    go_simp
    (have hSw:=hHeld;(try dsimp only at hSw);obtain ⟨bx0,sx⟩:=hSw;have c0_0:=(bx0 0 _ rfl).1;have c0_1:=(bx0 1 _ rfl).1;have c0_2:=(bx0 2 _ rfl).1;have s_ps:=Ext.keep sx ps;have s_p0:=Ext.keep sx p0;have s_p1:=Ext.keep sx p1;have s_p2:=Ext.keep sx p2;have s_p3:=Ext.keep sx p3;have s_p4:=Ext.keep sx p4;have s_p5:=Ext.keep sx p5;(try have s_s1:=Ext.keep sx s1);have s_hV:=hV.ext CtlP.keeps sx;have s_hB:=BigP.keeps _ _ _ _ _ _ (Same.ext sx) hB;have s_hLV:=hLV.ext IntP.keeps sx;go_at_call 180;(refine (c_impl_Bigraph_isParent lo hi lo' hi' _ sig _ b _ _ _ s_hV s_hB e2 HR.out (by omega) hC).mono ?_);rintro e y ⟨rfl,hb⟩;rw [Hu.out])
    show K _ _
    refine hK.out _ _ (by (have hh:=hHeld;(try dsimp only at hh);exact ⟨hh.1.ext hb,hh.2.trans hb⟩)) (fun hHeld=>?_)
    clear hK K
    try simp only [Act.put,aput]
    refine tkP 14 ?_ ?_ ?_;rotate_left;focus (intro w;go_simp;try with_reducible rfl)
    try simp only [Act.put,aput]
    refine tkP 15 ?_ ?_ ?_;rotate_left;focus (intro w;go_simp;try with_reducible rfl)
    try simp only [Act.put,aput]
    refine tkP 16 ?_ ?_ ?_;rotate_left;focus (intro w;go_simp;try with_reducible rfl)
    try simp only [Act.put,aput]
    refine tkP 17 ?_ ?_ ?_;rotate_left;focus (intro w;go_simp;try with_reducible rfl)
    try simp only [Act.put,aput]
    refine tkY 18 ?_ ?_ ?_;rotate_left;focus (intro w hSw;(try dsimp only at hSw);obtain ⟨bx0,sx⟩:=hSw;have c0_0:=(bx0 0 _ rfl).1;have c0_1:=(bx0 1 _ rfl).1;have c0_2:=(bx0 2 _ rfl).1;have s_ps:=Ext.keep sx ps;have s_p0:=Ext.keep sx p0;have s_p1:=Ext.keep sx p1;have s_p2:=Ext.keep sx p2;have s_p3:=Ext.keep sx p3;have s_p4:=Ext.keep sx p4;have s_p5:=Ext.keep sx p5;(try have s_s1:=Ext.keep sx s1);go_simp;try with_reducible rfl)
    try simp only [Act.put,aput]
    refine tkP 19 ?_ ?_ ?_;rotate_left;focus (intro w;go_simp;try with_reducible rfl)
    try simp only [Act.put,aput]
    refine tkY 20 ?_ ?_ ?_;rotate_left;focus (intro w hSw;(try dsimp only at hSw);obtain ⟨bx0,sx⟩:=hSw;have c0_0:=(bx0 0 _ rfl).1;have c0_1:=(bx0 1 _ rfl).1;have c0_2:=(bx0 2 _ rfl).1;have s_ps:=Ext.keep sx ps;have s_p0:=Ext.keep sx p0;have s_p1:=Ext.keep sx p1;have s_p2:=Ext.keep sx p2;have s_p3:=Ext.keep sx p3;have s_p4:=Ext.keep sx p4;have s_p5:=Ext.keep sx p5;(try have s_s1:=Ext.keep sx s1);go_simp;try with_reducible rfl)
    try simp only [Act.put,aput]
    refine tkP 21 ?_ ?_ ?_;rotate_left;focus (intro w;go_simp;try with_reducible rfl)
    try simp only [Act.put,aput]
    refine tkY 22 ?_ ?_ ?_;rotate_left;focus (intro w hSw;(try dsimp only at hSw);obtain ⟨bx0,sx⟩:=hSw;have c0_0:=(bx0 0 _ rfl).1;have c0_1:=(bx0 1 _ rfl).1;have c0_2:=(bx0 2 _ rfl).1;have s_ps:=Ext.keep sx ps;have s_p0:=Ext.keep sx p0;have s_p1:=Ext.keep sx p1;have s_p2:=Ext.keep sx p2;have s_p3:=Ext.keep sx p3;have s_p4:=Ext.keep sx p4;have s_p5:=Ext.keep sx p5;(try have s_s1:=Ext.keep sx s1);go_simp;try with_reducible rfl)
    try simp only [Act.put,aput]
    refine tkP 23 ?_ ?_ ?_;rotate_left;focus (intro w;go_simp;try with_reducible rfl)
    try simp only [Act.put,aput]
    refine tkP 24 ?_ ?_ ?_;rotate_left;focus (intro w;go_simp;try with_reducible rfl)
    try simp only [Act.put,aput]
    refine tkY 25 ?_ ?_ ?_;rotate_left;focus (intro w hSw;(try dsimp only at hSw);obtain ⟨bx0,sx⟩:=hSw;have c0_0:=(bx0 0 _ rfl).1;have c0_1:=(bx0 1 _ rfl).1;have c0_2:=(bx0 2 _ rfl).1;have s_ps:=Ext.keep sx ps;have s_p0:=Ext.keep sx p0;have s_p1:=Ext.keep sx p1;have s_p2:=Ext.keep sx p2;have s_p3:=Ext.keep sx p3;have s_p4:=Ext.keep sx p4;have s_p5:=Ext.keep sx p5;(try have s_s1:=Ext.keep sx s1);go_simp;try with_reducible rfl)
    try simp only [Act.put,aput]
    refine tkP 26 ?_ ?_ ?_;rotate_left;focus (intro w;go_simp;try with_reducible rfl)
    try simp only [Act.put,aput]
    refine tkP 27 ?_ ?_ ?_;rotate_left;focus (intro w;go_simp;try with_reducible rfl)
    try simp only [Act.put,aput]
    refine tkP 28 ?_ ?_ ?_;rotate_left;focus (intro w;go_simp;try with_reducible rfl)
    try simp only [Act.put,aput]
    refine tkN 29 ?_
    try simp only [Act.put,aput]
    refine tkN 30 ?_
    try simp only [Act.put,aput]
    refine tkN 31 ?_
    try simp only [Act.put,aput]
    refine tkN 32 ?_
    try simp only [Act.put,aput]
    refine tkP 33 ?_ ?_ ?_;rotate_left;focus (intro w;go_simp;try with_reducible rfl)
    try simp only [Act.put,aput]
    refine wpAnyH_done (by kernel_rfl) ?_ _
    all_goals go_wp2
    all_goals go_ret
    all_goals exact ⟨ret_bool HB.out.symm,xw⟩
   have el:(((nl.length:Int)) != ((sig[m]).ports))=false:=bne_eq_false_iff_eq.2 hl
   have Hl:=Lib.hid hl
   clear hl
   cases hk:nl.any (fun l=>!(linkB b l))
   rotate_left
   ·have Hk:=Lib.hid hk
    clear hk
    have HB:=Lib.hid (hbad (by rw [HA.out];first|(rw [HK.out];simp [Hc.out,Hu.out,Hl.out,Hk.out];done)|simp [Hc.out,Hu.out,Hl.out,Hk.out]))
    clear hbad
    go_wp2_with fail
    refine wp_region_held_drew (S:=(fun w'=>BoxAt w' wr.heap.size [.int .i64 (m:Int),.int .i64 np,.slice la nl.length lk]∧Ext wr w')) (by kernel_rfl) ?_ (fun hHeld=>?_)
    ·(refine ⟨?_,xw⟩;all_goals (intro j u hj;rcases j with _|_|_|_|_|_|_|_|j <;> simp at hj <;> (subst hj;simp)))
    refine tkP 0 ?_ ?_ ?_;rotate_left;focus (intro w;go_simp;try with_reducible rfl)
    try simp only [Act.put,aput]
    refine tkY 1 ?_ ?_ ?_;rotate_left;focus (intro w hSw;(try dsimp only at hSw);obtain ⟨bx0,sx⟩:=hSw;have c0_0:=(bx0 0 _ rfl).1;have c0_1:=(bx0 1 _ rfl).1;have c0_2:=(bx0 2 _ rfl).1;have s_ps:=Ext.keep sx ps;have s_p0:=Ext.keep sx p0;have s_p1:=Ext.keep sx p1;have s_p2:=Ext.keep sx p2;have s_p3:=Ext.keep sx p3;have s_p4:=Ext.keep sx p4;have s_p5:=Ext.keep sx p5;(try have s_s1:=Ext.keep sx s1);go_simp;try with_reducible rfl)
    try simp only [Act.put,aput]
    refine tkY 2 ?_ ?_ ?_;rotate_left;focus (intro w hSw;(try dsimp only at hSw);obtain ⟨bx0,sx⟩:=hSw;have c0_0:=(bx0 0 _ rfl).1;have c0_1:=(bx0 1 _ rfl).1;have c0_2:=(bx0 2 _ rfl).1;have s_ps:=Ext.keep sx ps;have s_p0:=Ext.keep sx p0;have s_p1:=Ext.keep sx p1;have s_p2:=Ext.keep sx p2;have s_p3:=Ext.keep sx p3;have s_p4:=Ext.keep sx p4;have s_p5:=Ext.keep sx p5;(try have s_s1:=Ext.keep sx s1);go_simp;try with_reducible rfl)
    try simp only [Act.put,aput]
    refine tkP 3 ?_ ?_ ?_;rotate_left;focus (intro w;go_simp;try with_reducible rfl)
    try simp only [Act.put,aput]
    refine tkP 4 ?_ ?_ ?_;rotate_left;focus (intro w;go_simp;try with_reducible rfl)
    try simp only [Act.put,aput]
    refine wpAnyH_ready (rs:=[5]) (by kernel_rfl) (by simp) ?_
    refine AllReadyH.cons rfl (fun K hK=>?_) AllReadyH.nil
    (try simp only [aput])
    go_simp
    (go_at_call 55;(refine (c_impl_within _ _ _ _).mono ?_);rintro e y ⟨rfl,rfl⟩;rw [Hc.out])
    show K _ _
    refine hK.out _ _ (by exact hHeld) (fun hHeld=>?_)
    clear hK K
    try simp only [Act.put,aput]
    refine tkP 6 ?_ ?_ ?_;rotate_left;focus (intro w;go_simp;try with_reducible rfl)
    try simp only [Act.put,aput]
    refine tkP 7 ?_ ?_ ?_;rotate_left;focus (intro w;go_simp;try with_reducible rfl)
    try simp only [Act.put,aput]
    refine tkY 8 ?_ ?_ ?_;rotate_left;focus (intro w hSw;(try dsimp only at hSw);obtain ⟨bx0,sx⟩:=hSw;have c0_0:=(bx0 0 _ rfl).1;have c0_1:=(bx0 1 _ rfl).1;have c0_2:=(bx0 2 _ rfl).1;have s_ps:=Ext.keep sx ps;have s_p0:=Ext.keep sx p0;have s_p1:=Ext.keep sx p1;have s_p2:=Ext.keep sx p2;have s_p3:=Ext.keep sx p3;have s_p4:=Ext.keep sx p4;have s_p5:=Ext.keep sx p5;(try have s_s1:=Ext.keep sx s1);go_simp;try with_reducible rfl)
    try simp only [Act.put,aput]
    refine tkY 9 ?_ ?_ ?_;rotate_left;focus (intro w hSw;(try dsimp only at hSw);obtain ⟨bx0,sx⟩:=hSw;have c0_0:=(bx0 0 _ rfl).1;have c0_1:=(bx0 1 _ rfl).1;have c0_2:=(bx0 2 _ rfl).1;have s_ps:=Ext.keep sx ps;have s_p0:=Ext.keep sx p0;have s_p1:=Ext.keep sx p1;have s_p2:=Ext.keep sx p2;have s_p3:=Ext.keep sx p3;have s_p4:=Ext.keep sx p4;have s_p5:=Ext.keep sx p5;(try have s_s1:=Ext.keep sx s1);go_simp;try with_reducible rfl)
    try simp only [Act.put,aput]
    refine tkP 10 ?_ ?_ ?_;rotate_left;focus (intro w;go_simp;try with_reducible rfl)
    try simp only [Act.put,aput]
    refine tkY 11 ?_ ?_ ?_;rotate_left;focus (intro w hSw;(try dsimp only at hSw);obtain ⟨bx0,sx⟩:=hSw;have c0_0:=(bx0 0 _ rfl).1;have c0_1:=(bx0 1 _ rfl).1;have c0_2:=(bx0 2 _ rfl).1;have s_ps:=Ext.keep sx ps;have s_p0:=Ext.keep sx p0;have s_p1:=Ext.keep sx p1;have s_p2:=Ext.keep sx p2;have s_p3:=Ext.keep sx p3;have s_p4:=Ext.keep sx p4;have s_p5:=Ext.keep sx p5;(try have s_s1:=Ext.keep sx s1);go_simp;try with_reducible rfl)
    try simp only [Act.put,aput]
    refine tkP 12 ?_ ?_ ?_;rotate_left;focus (intro w;go_simp;try with_reducible rfl)
    try simp only [Act.put,aput]
    refine wpAnyH_ready (rs:=[13]) (by kernel_rfl) (by simp) ?_
    refine AllReadyH.cons rfl (fun K hK=>?_) AllReadyH.nil
    (try simp only [aput])
    go_simp
    (have hSw:=hHeld;(try dsimp only at hSw);obtain ⟨bx0,sx⟩:=hSw;have c0_0:=(bx0 0 _ rfl).1;have c0_1:=(bx0 1 _ rfl).1;have c0_2:=(bx0 2 _ rfl).1;have s_ps:=Ext.keep sx ps;have s_p0:=Ext.keep sx p0;have s_p1:=Ext.keep sx p1;have s_p2:=Ext.keep sx p2;have s_p3:=Ext.keep sx p3;have s_p4:=Ext.keep sx p4;have s_p5:=Ext.keep sx p5;(try have s_s1:=Ext.keep sx s1);have s_hV:=hV.ext CtlP.keeps sx;have s_hB:=BigP.keeps _ _ _ _ _ _ (Same.ext sx) hB;have s_hLV:=hLV.ext IntP.keeps sx;go_at_call 180;(refine (c_impl_Bigraph_isParent lo hi lo' hi' _ sig _ b _ _ _ s_hV s_hB e2 HR.out (by omega) hC).mono ?_);rintro e y ⟨rfl,hb⟩;rw [Hu.out])
    show K _ _
    refine hK.out _ _ (by (have hh:=hHeld;(try dsimp only at hh);exact ⟨hh.1.ext hb,hh.2.trans hb⟩)) (fun hHeld=>?_)
    clear hK K
    try simp only [Act.put,aput]
    refine tkP 14 ?_ ?_ ?_;rotate_left;focus (intro w;go_simp;try with_reducible rfl)
    try simp only [Act.put,aput]
    refine tkP 15 ?_ ?_ ?_;rotate_left;focus (intro w;go_simp;try with_reducible rfl)
    try simp only [Act.put,aput]
    refine tkP 16 ?_ ?_ ?_;rotate_left;focus (intro w;go_simp;try with_reducible rfl)
    try simp only [Act.put,aput]
    refine tkP 17 ?_ ?_ ?_;rotate_left;focus (intro w;go_simp;try with_reducible rfl)
    try simp only [Act.put,aput]
    refine tkY 18 ?_ ?_ ?_;rotate_left;focus (intro w hSw;(try dsimp only at hSw);obtain ⟨bx0,sx⟩:=hSw;have c0_0:=(bx0 0 _ rfl).1;have c0_1:=(bx0 1 _ rfl).1;have c0_2:=(bx0 2 _ rfl).1;have s_ps:=Ext.keep sx ps;have s_p0:=Ext.keep sx p0;have s_p1:=Ext.keep sx p1;have s_p2:=Ext.keep sx p2;have s_p3:=Ext.keep sx p3;have s_p4:=Ext.keep sx p4;have s_p5:=Ext.keep sx p5;(try have s_s1:=Ext.keep sx s1);go_simp;try with_reducible rfl)
    try simp only [Act.put,aput]
    refine tkP 19 ?_ ?_ ?_;rotate_left;focus (intro w;go_simp;try with_reducible rfl)
    try simp only [Act.put,aput]
    refine tkY 20 ?_ ?_ ?_;rotate_left;focus (intro w hSw;(try dsimp only at hSw);obtain ⟨bx0,sx⟩:=hSw;have c0_0:=(bx0 0 _ rfl).1;have c0_1:=(bx0 1 _ rfl).1;have c0_2:=(bx0 2 _ rfl).1;have s_ps:=Ext.keep sx ps;have s_p0:=Ext.keep sx p0;have s_p1:=Ext.keep sx p1;have s_p2:=Ext.keep sx p2;have s_p3:=Ext.keep sx p3;have s_p4:=Ext.keep sx p4;have s_p5:=Ext.keep sx p5;(try have s_s1:=Ext.keep sx s1);go_simp;try with_reducible rfl)
    try simp only [Act.put,aput]
    refine tkP 21 ?_ ?_ ?_;rotate_left;focus (intro w;go_simp;try with_reducible rfl)
    try simp only [Act.put,aput]
    refine tkY 22 ?_ ?_ ?_;rotate_left;focus (intro w hSw;(try dsimp only at hSw);obtain ⟨bx0,sx⟩:=hSw;have c0_0:=(bx0 0 _ rfl).1;have c0_1:=(bx0 1 _ rfl).1;have c0_2:=(bx0 2 _ rfl).1;have s_ps:=Ext.keep sx ps;have s_p0:=Ext.keep sx p0;have s_p1:=Ext.keep sx p1;have s_p2:=Ext.keep sx p2;have s_p3:=Ext.keep sx p3;have s_p4:=Ext.keep sx p4;have s_p5:=Ext.keep sx p5;(try have s_s1:=Ext.keep sx s1);go_simp;try with_reducible rfl)
    try simp only [Act.put,aput]
    refine tkP 23 ?_ ?_ ?_;rotate_left;focus (intro w;go_simp;try with_reducible rfl)
    try simp only [Act.put,aput]
    refine tkP 24 ?_ ?_ ?_;rotate_left;focus (intro w;go_simp;try with_reducible rfl)
    try simp only [Act.put,aput]
    refine tkY 25 ?_ ?_ ?_;rotate_left;focus (intro w hSw;(try dsimp only at hSw);obtain ⟨bx0,sx⟩:=hSw;have c0_0:=(bx0 0 _ rfl).1;have c0_1:=(bx0 1 _ rfl).1;have c0_2:=(bx0 2 _ rfl).1;have s_ps:=Ext.keep sx ps;have s_p0:=Ext.keep sx p0;have s_p1:=Ext.keep sx p1;have s_p2:=Ext.keep sx p2;have s_p3:=Ext.keep sx p3;have s_p4:=Ext.keep sx p4;have s_p5:=Ext.keep sx p5;(try have s_s1:=Ext.keep sx s1);go_simp;try with_reducible rfl)
    try simp only [Act.put,aput]
    refine tkP 26 ?_ ?_ ?_;rotate_left;focus (intro w;go_simp;try with_reducible rfl)
    try simp only [Act.put,aput]
    refine tkP 27 ?_ ?_ ?_;rotate_left;focus (intro w;go_simp;try with_reducible rfl)
    try simp only [Act.put,aput]
    refine tkP 28 ?_ ?_ ?_;rotate_left;focus (intro w;go_simp;try with_reducible rfl)
    try simp only [Act.put,aput]
    refine tkP 29 ?_ ?_ ?_;rotate_left;focus (intro w;go_simp;try with_reducible rfl)
    try simp only [Act.put,aput]
    refine tkY 30 ?_ ?_ ?_;rotate_left;focus (intro w hSw;(try dsimp only at hSw);obtain ⟨bx0,sx⟩:=hSw;have c0_0:=(bx0 0 _ rfl).1;have c0_1:=(bx0 1 _ rfl).1;have c0_2:=(bx0 2 _ rfl).1;have s_ps:=Ext.keep sx ps;have s_p0:=Ext.keep sx p0;have s_p1:=Ext.keep sx p1;have s_p2:=Ext.keep sx p2;have s_p3:=Ext.keep sx p3;have s_p4:=Ext.keep sx p4;have s_p5:=Ext.keep sx p5;(try have s_s1:=Ext.keep sx s1);go_simp;try with_reducible rfl)
    try simp only [Act.put,aput]
    refine tkP 31 ?_ ?_ ?_;rotate_left;focus (intro w;go_simp;try with_reducible rfl)
    try simp only [Act.put,aput]
    refine wpAnyH_ready (rs:=[32]) (by kernel_rfl) (by simp) ?_
    refine AllReadyH.cons rfl (fun K hK=>?_) AllReadyH.nil
    (try simp only [aput])
    go_simp
    (have hSw:=hHeld;(try dsimp only at hSw);obtain ⟨bx0,sx⟩:=hSw;have c0_0:=(bx0 0 _ rfl).1;have c0_1:=(bx0 1 _ rfl).1;have c0_2:=(bx0 2 _ rfl).1;have s_ps:=Ext.keep sx ps;have s_p0:=Ext.keep sx p0;have s_p1:=Ext.keep sx p1;have s_p2:=Ext.keep sx p2;have s_p3:=Ext.keep sx p3;have s_p4:=Ext.keep sx p4;have s_p5:=Ext.keep sx p5;(try have s_s1:=Ext.keep sx s1);have s_hV:=hV.ext CtlP.keeps sx;have s_hB:=BigP.keeps _ _ _ _ _ _ (Same.ext sx) hB;have s_hLV:=hLV.ext IntP.keeps sx;go_at_call 111;(refine (c_slices_ContainsFunc_int_int lo' hi' (fun l=>!(linkB b l)) 181 #[.pointer (some ⟨W0.heap.size,0,none⟩)] _ _ _ s_hLV eg1 (fun j hj cs W hW hP=>c_impl_IsBigraph_1 lo' hi' W0.heap.size _ b _ W (BigP.keeps _ _ _ _ _ _ (Same.ext hW) s_hB) HE.out hol (fun j u hj=>hW.keep (sx.keep (hX1.keep (HBB.out j u hj)))))).mono ?_);rintro e y ⟨rfl,hb⟩;rw [Hk.out])
    show K _ _
    refine hK.out _ _ (by (have hh:=hHeld;(try dsimp only at hh);exact ⟨hh.1.ext hb,hh.2.trans hb⟩)) (fun hHeld=>?_)
    clear hK K
    try simp only [Act.put,aput]
    refine tkP 33 ?_ ?_ ?_;rotate_left;focus (intro w;go_simp;try with_reducible rfl)
    try simp only [Act.put,aput]
    refine wpAnyH_done (by kernel_rfl) ?_ _
    all_goals go_wp2
    all_goals go_ret
    all_goals exact ⟨ret_bool HB.out.symm,xw⟩
   have Hk:=Lib.hid hk
   clear hk
   have HG:=Lib.hid (show nodeOk sig b i=true by rw [HA.out,HK.out];simp [Hc.out,Hu.out,Hl.out,Hk.out])
   clear hbad
   go_wp2_with fail
   refine wp_region_held_drew (S:=(fun w'=>BoxAt w' wr.heap.size [.int .i64 (m:Int),.int .i64 np,.slice la nl.length lk]∧Ext wr w')) (by kernel_rfl) ?_ (fun hHeld=>?_)
   ·(refine ⟨?_,xw⟩;all_goals (intro j u hj;rcases j with _|_|_|_|_|_|_|_|j <;> simp at hj <;> (subst hj;simp)))
   refine tkP 0 ?_ ?_ ?_;rotate_left;focus (intro w;go_simp;try with_reducible rfl)
   try simp only [Act.put,aput]
   refine tkY 1 ?_ ?_ ?_;rotate_left;focus (intro w hSw;(try dsimp only at hSw);obtain ⟨bx0,sx⟩:=hSw;have c0_0:=(bx0 0 _ rfl).1;have c0_1:=(bx0 1 _ rfl).1;have c0_2:=(bx0 2 _ rfl).1;have s_ps:=Ext.keep sx ps;have s_p0:=Ext.keep sx p0;have s_p1:=Ext.keep sx p1;have s_p2:=Ext.keep sx p2;have s_p3:=Ext.keep sx p3;have s_p4:=Ext.keep sx p4;have s_p5:=Ext.keep sx p5;(try have s_s1:=Ext.keep sx s1);go_simp;try with_reducible rfl)
   try simp only [Act.put,aput]
   refine tkY 2 ?_ ?_ ?_;rotate_left;focus (intro w hSw;(try dsimp only at hSw);obtain ⟨bx0,sx⟩:=hSw;have c0_0:=(bx0 0 _ rfl).1;have c0_1:=(bx0 1 _ rfl).1;have c0_2:=(bx0 2 _ rfl).1;have s_ps:=Ext.keep sx ps;have s_p0:=Ext.keep sx p0;have s_p1:=Ext.keep sx p1;have s_p2:=Ext.keep sx p2;have s_p3:=Ext.keep sx p3;have s_p4:=Ext.keep sx p4;have s_p5:=Ext.keep sx p5;(try have s_s1:=Ext.keep sx s1);go_simp;try with_reducible rfl)
   try simp only [Act.put,aput]
   refine tkP 3 ?_ ?_ ?_;rotate_left;focus (intro w;go_simp;try with_reducible rfl)
   try simp only [Act.put,aput]
   refine tkP 4 ?_ ?_ ?_;rotate_left;focus (intro w;go_simp;try with_reducible rfl)
   try simp only [Act.put,aput]
   refine wpAnyH_ready (rs:=[5]) (by kernel_rfl) (by simp) ?_
   refine AllReadyH.cons rfl (fun K hK=>?_) AllReadyH.nil
   (try simp only [aput])
   go_simp
   (go_at_call 55;(refine (c_impl_within _ _ _ _).mono ?_);rintro e y ⟨rfl,rfl⟩;rw [Hc.out])
   show K _ _
   refine hK.out _ _ (by exact hHeld) (fun hHeld=>?_)
   clear hK K
   try simp only [Act.put,aput]
   refine tkP 6 ?_ ?_ ?_;rotate_left;focus (intro w;go_simp;try with_reducible rfl)
   try simp only [Act.put,aput]
   refine tkP 7 ?_ ?_ ?_;rotate_left;focus (intro w;go_simp;try with_reducible rfl)
   try simp only [Act.put,aput]
   refine tkY 8 ?_ ?_ ?_;rotate_left;focus (intro w hSw;(try dsimp only at hSw);obtain ⟨bx0,sx⟩:=hSw;have c0_0:=(bx0 0 _ rfl).1;have c0_1:=(bx0 1 _ rfl).1;have c0_2:=(bx0 2 _ rfl).1;have s_ps:=Ext.keep sx ps;have s_p0:=Ext.keep sx p0;have s_p1:=Ext.keep sx p1;have s_p2:=Ext.keep sx p2;have s_p3:=Ext.keep sx p3;have s_p4:=Ext.keep sx p4;have s_p5:=Ext.keep sx p5;(try have s_s1:=Ext.keep sx s1);go_simp;try with_reducible rfl)
   try simp only [Act.put,aput]
   refine tkY 9 ?_ ?_ ?_;rotate_left;focus (intro w hSw;(try dsimp only at hSw);obtain ⟨bx0,sx⟩:=hSw;have c0_0:=(bx0 0 _ rfl).1;have c0_1:=(bx0 1 _ rfl).1;have c0_2:=(bx0 2 _ rfl).1;have s_ps:=Ext.keep sx ps;have s_p0:=Ext.keep sx p0;have s_p1:=Ext.keep sx p1;have s_p2:=Ext.keep sx p2;have s_p3:=Ext.keep sx p3;have s_p4:=Ext.keep sx p4;have s_p5:=Ext.keep sx p5;(try have s_s1:=Ext.keep sx s1);go_simp;try with_reducible rfl)
   try simp only [Act.put,aput]
   refine tkP 10 ?_ ?_ ?_;rotate_left;focus (intro w;go_simp;try with_reducible rfl)
   try simp only [Act.put,aput]
   refine tkY 11 ?_ ?_ ?_;rotate_left;focus (intro w hSw;(try dsimp only at hSw);obtain ⟨bx0,sx⟩:=hSw;have c0_0:=(bx0 0 _ rfl).1;have c0_1:=(bx0 1 _ rfl).1;have c0_2:=(bx0 2 _ rfl).1;have s_ps:=Ext.keep sx ps;have s_p0:=Ext.keep sx p0;have s_p1:=Ext.keep sx p1;have s_p2:=Ext.keep sx p2;have s_p3:=Ext.keep sx p3;have s_p4:=Ext.keep sx p4;have s_p5:=Ext.keep sx p5;(try have s_s1:=Ext.keep sx s1);go_simp;try with_reducible rfl)
   try simp only [Act.put,aput]
   refine tkP 12 ?_ ?_ ?_;rotate_left;focus (intro w;go_simp;try with_reducible rfl)
   try simp only [Act.put,aput]
   refine wpAnyH_ready (rs:=[13]) (by kernel_rfl) (by simp) ?_
   refine AllReadyH.cons rfl (fun K hK=>?_) AllReadyH.nil
   (try simp only [aput])
   go_simp
   (have hSw:=hHeld;(try dsimp only at hSw);obtain ⟨bx0,sx⟩:=hSw;have c0_0:=(bx0 0 _ rfl).1;have c0_1:=(bx0 1 _ rfl).1;have c0_2:=(bx0 2 _ rfl).1;have s_ps:=Ext.keep sx ps;have s_p0:=Ext.keep sx p0;have s_p1:=Ext.keep sx p1;have s_p2:=Ext.keep sx p2;have s_p3:=Ext.keep sx p3;have s_p4:=Ext.keep sx p4;have s_p5:=Ext.keep sx p5;(try have s_s1:=Ext.keep sx s1);have s_hV:=hV.ext CtlP.keeps sx;have s_hB:=BigP.keeps _ _ _ _ _ _ (Same.ext sx) hB;have s_hLV:=hLV.ext IntP.keeps sx;go_at_call 180;(refine (c_impl_Bigraph_isParent lo hi lo' hi' _ sig _ b _ _ _ s_hV s_hB e2 HR.out (by omega) hC).mono ?_);rintro e y ⟨rfl,hb⟩;rw [Hu.out])
   show K _ _
   refine hK.out _ _ (by (have hh:=hHeld;(try dsimp only at hh);exact ⟨hh.1.ext hb,hh.2.trans hb⟩)) (fun hHeld=>?_)
   clear hK K
   try simp only [Act.put,aput]
   refine tkP 14 ?_ ?_ ?_;rotate_left;focus (intro w;go_simp;try with_reducible rfl)
   try simp only [Act.put,aput]
   refine tkP 15 ?_ ?_ ?_;rotate_left;focus (intro w;go_simp;try with_reducible rfl)
   try simp only [Act.put,aput]
   refine tkP 16 ?_ ?_ ?_;rotate_left;focus (intro w;go_simp;try with_reducible rfl)
   try simp only [Act.put,aput]
   refine tkP 17 ?_ ?_ ?_;rotate_left;focus (intro w;go_simp;try with_reducible rfl)
   try simp only [Act.put,aput]
   refine tkY 18 ?_ ?_ ?_;rotate_left;focus (intro w hSw;(try dsimp only at hSw);obtain ⟨bx0,sx⟩:=hSw;have c0_0:=(bx0 0 _ rfl).1;have c0_1:=(bx0 1 _ rfl).1;have c0_2:=(bx0 2 _ rfl).1;have s_ps:=Ext.keep sx ps;have s_p0:=Ext.keep sx p0;have s_p1:=Ext.keep sx p1;have s_p2:=Ext.keep sx p2;have s_p3:=Ext.keep sx p3;have s_p4:=Ext.keep sx p4;have s_p5:=Ext.keep sx p5;(try have s_s1:=Ext.keep sx s1);go_simp;try with_reducible rfl)
   try simp only [Act.put,aput]
   refine tkP 19 ?_ ?_ ?_;rotate_left;focus (intro w;go_simp;try with_reducible rfl)
   try simp only [Act.put,aput]
   refine tkY 20 ?_ ?_ ?_;rotate_left;focus (intro w hSw;(try dsimp only at hSw);obtain ⟨bx0,sx⟩:=hSw;have c0_0:=(bx0 0 _ rfl).1;have c0_1:=(bx0 1 _ rfl).1;have c0_2:=(bx0 2 _ rfl).1;have s_ps:=Ext.keep sx ps;have s_p0:=Ext.keep sx p0;have s_p1:=Ext.keep sx p1;have s_p2:=Ext.keep sx p2;have s_p3:=Ext.keep sx p3;have s_p4:=Ext.keep sx p4;have s_p5:=Ext.keep sx p5;(try have s_s1:=Ext.keep sx s1);go_simp;try with_reducible rfl)
   try simp only [Act.put,aput]
   refine tkP 21 ?_ ?_ ?_;rotate_left;focus (intro w;go_simp;try with_reducible rfl)
   try simp only [Act.put,aput]
   refine tkY 22 ?_ ?_ ?_;rotate_left;focus (intro w hSw;(try dsimp only at hSw);obtain ⟨bx0,sx⟩:=hSw;have c0_0:=(bx0 0 _ rfl).1;have c0_1:=(bx0 1 _ rfl).1;have c0_2:=(bx0 2 _ rfl).1;have s_ps:=Ext.keep sx ps;have s_p0:=Ext.keep sx p0;have s_p1:=Ext.keep sx p1;have s_p2:=Ext.keep sx p2;have s_p3:=Ext.keep sx p3;have s_p4:=Ext.keep sx p4;have s_p5:=Ext.keep sx p5;(try have s_s1:=Ext.keep sx s1);go_simp;try with_reducible rfl)
   try simp only [Act.put,aput]
   refine tkP 23 ?_ ?_ ?_;rotate_left;focus (intro w;go_simp;try with_reducible rfl)
   try simp only [Act.put,aput]
   refine tkP 24 ?_ ?_ ?_;rotate_left;focus (intro w;go_simp;try with_reducible rfl)
   try simp only [Act.put,aput]
   refine tkY 25 ?_ ?_ ?_;rotate_left;focus (intro w hSw;(try dsimp only at hSw);obtain ⟨bx0,sx⟩:=hSw;have c0_0:=(bx0 0 _ rfl).1;have c0_1:=(bx0 1 _ rfl).1;have c0_2:=(bx0 2 _ rfl).1;have s_ps:=Ext.keep sx ps;have s_p0:=Ext.keep sx p0;have s_p1:=Ext.keep sx p1;have s_p2:=Ext.keep sx p2;have s_p3:=Ext.keep sx p3;have s_p4:=Ext.keep sx p4;have s_p5:=Ext.keep sx p5;(try have s_s1:=Ext.keep sx s1);go_simp;try with_reducible rfl)
   try simp only [Act.put,aput]
   refine tkP 26 ?_ ?_ ?_;rotate_left;focus (intro w;go_simp;try with_reducible rfl)
   try simp only [Act.put,aput]
   refine tkP 27 ?_ ?_ ?_;rotate_left;focus (intro w;go_simp;try with_reducible rfl)
   try simp only [Act.put,aput]
   refine tkP 28 ?_ ?_ ?_;rotate_left;focus (intro w;go_simp;try with_reducible rfl)
   try simp only [Act.put,aput]
   refine tkP 29 ?_ ?_ ?_;rotate_left;focus (intro w;go_simp;try with_reducible rfl)
   try simp only [Act.put,aput]
   refine tkY 30 ?_ ?_ ?_;rotate_left;focus (intro w hSw;(try dsimp only at hSw);obtain ⟨bx0,sx⟩:=hSw;have c0_0:=(bx0 0 _ rfl).1;have c0_1:=(bx0 1 _ rfl).1;have c0_2:=(bx0 2 _ rfl).1;have s_ps:=Ext.keep sx ps;have s_p0:=Ext.keep sx p0;have s_p1:=Ext.keep sx p1;have s_p2:=Ext.keep sx p2;have s_p3:=Ext.keep sx p3;have s_p4:=Ext.keep sx p4;have s_p5:=Ext.keep sx p5;(try have s_s1:=Ext.keep sx s1);go_simp;try with_reducible rfl)
   try simp only [Act.put,aput]
   refine tkP 31 ?_ ?_ ?_;rotate_left;focus (intro w;go_simp;try with_reducible rfl)
   try simp only [Act.put,aput]
   refine wpAnyH_ready (rs:=[32]) (by kernel_rfl) (by simp) ?_
   refine AllReadyH.cons rfl (fun K hK=>?_) AllReadyH.nil
   (try simp only [aput])
   go_simp
   (have hSw:=hHeld;(try dsimp only at hSw);obtain ⟨bx0,sx⟩:=hSw;have c0_0:=(bx0 0 _ rfl).1;have c0_1:=(bx0 1 _ rfl).1;have c0_2:=(bx0 2 _ rfl).1;have s_ps:=Ext.keep sx ps;have s_p0:=Ext.keep sx p0;have s_p1:=Ext.keep sx p1;have s_p2:=Ext.keep sx p2;have s_p3:=Ext.keep sx p3;have s_p4:=Ext.keep sx p4;have s_p5:=Ext.keep sx p5;(try have s_s1:=Ext.keep sx s1);have s_hV:=hV.ext CtlP.keeps sx;have s_hB:=BigP.keeps _ _ _ _ _ _ (Same.ext sx) hB;have s_hLV:=hLV.ext IntP.keeps sx;go_at_call 111;(refine (c_slices_ContainsFunc_int_int lo' hi' (fun l=>!(linkB b l)) 181 #[.pointer (some ⟨W0.heap.size,0,none⟩)] _ _ _ s_hLV eg1 (fun j hj cs W hW hP=>c_impl_IsBigraph_1 lo' hi' W0.heap.size _ b _ W (BigP.keeps _ _ _ _ _ _ (Same.ext hW) s_hB) HE.out hol (fun j u hj=>hW.keep (sx.keep (hX1.keep (HBB.out j u hj)))))).mono ?_);rintro e y ⟨rfl,hb⟩;rw [Hk.out])
   show K _ _
   refine hK.out _ _ (by (have hh:=hHeld;(try dsimp only at hh);exact ⟨hh.1.ext hb,hh.2.trans hb⟩)) (fun hHeld=>?_)
   clear hK K
   try simp only [Act.put,aput]
   refine tkP 33 ?_ ?_ ?_;rotate_left;focus (intro w;go_simp;try with_reducible rfl)
   try simp only [Act.put,aput]
   refine wpAnyH_done (by kernel_rfl) ?_ _
   all_goals go_wp2
   all_goals go_roundw
   case rel=>exact ⟨i+1,rfl,by omega,by rw [HS.out,HOK.out,HG.out];rfl,xw⟩
   all_goals (simp only [intOf];omega)
  ·have e:i=b.nodes.length:=by omega
   subst e
   have hC:=CtlIn_of HOK.out
   replace hS:=hS.ext IntP.keeps hx
   replace hI:=hI.ext WrP.keeps hx
   have HSA:=Lib.hid (site_any sig b)
   have HWA:=Lib.hid (wire_any b)
   have hans:bigB sig b=(b.sites.all (siteOk sig b) && b.inner.all (wireOk b)):=by unfold bigB;rw [HH.out,HOK.out];rfl
   have HN:=Lib.hid hans
   clear hans eg1
   have Hx:=Lib.hid trivial
   cases hz:b.sites.any (fun p=>!(underB sig b p b.nodes.length))
   have Hz:=Lib.hid hz;clear hz
   cases hx:b.inner.any (fun x=>!(linkB b x.link))
   have Hx:=Lib.hid hx;clear hx
   have isF:=trivial
   rotate_left
   have Hx:=Lib.hid hx;clear hx
   have isP:=trivial
   rotate_left
   have Hz:=Lib.hid hz;clear hz
   have isP:=trivial
   all_goals go_wp2_with (first|(go_at_call 184;(refine (c_slices_ContainsFunc_impl_Wire_impl_Wire lo' hi' (fun x=>!(linkB b x.link)) 185 #[.pointer (some ⟨W0.heap.size,0,none⟩)] _ _ _ hI eg3 (fun j hj cs W hW hP=>c_impl_IsBigraph_3 lo' hi' W0.heap.size _ b cs _ W (BigP.keeps _ _ _ _ _ _ (Same.ext hW) hB) HE.out hol (fun j u hj=>hW.keep (hb.keep (hX1.keep (HBB.out j u hj)))) hP)).mono ?_);rintro e y ⟨rfl,hb⟩;rw [Hx.out];replace ps:=Ext.keep hb ps;replace p0:=Ext.keep hb p0;replace p1:=Ext.keep hb p1;replace p2:=Ext.keep hb p2;replace p3:=Ext.keep hb p3;replace p4:=Ext.keep hb p4;replace p5:=Ext.keep hb p5;replace hV:=hV.ext CtlP.keeps hb;replace hB:=BigP.keeps _ _ _ _ _ _ (Same.ext hb) hB;replace hS:=hS.ext IntP.keeps hb;replace hI:=hI.ext WrP.keeps hb)|(go_at_call 111;(refine (c_slices_ContainsFunc_int_int lo' hi' (fun p=>!(underB sig b p b.nodes.length)) 183 #[.pointer (some ⟨W0.heap.size,0,none⟩),.pointer (some ⟨w.heap.size,0,none⟩)] _ _ _ hS eg2 (fun j hj cs W hW hP=>c_impl_IsBigraph_2 lo' hi' lo hi W0.heap.size w.heap.size _ sig _ b _ W (hV.ext CtlP.keeps hW) (BigP.keeps _ _ _ _ _ _ (Same.ext hW) hB) hP.2 HR.out hC (fun j u hj=>hW.keep (hX1.keep (HBB.out j u hj))) (hW.keep ps))).mono ?_);rintro e y ⟨rfl,hb⟩;rw [Hz.out];replace ps:=Ext.keep hb ps;replace p0:=Ext.keep hb p0;replace p1:=Ext.keep hb p1;replace p2:=Ext.keep hb p2;replace p3:=Ext.keep hb p3;replace p4:=Ext.keep hb p4;replace p5:=Ext.keep hb p5;replace hV:=hV.ext CtlP.keeps hb;replace hB:=BigP.keeps _ _ _ _ _ _ (Same.ext hb) hB;replace hS:=hS.ext IntP.keeps hb;replace hI:=hI.ext WrP.keeps hb))
   all_goals first|(have:=isF;go_ret;exact ⟨ret_bool (by rw [HN.out,inv_not HSA.out,inv_not HWA.out,Hz.out,Hx.out];rfl),xw⟩)|(have:=isP;go_ret;exact ⟨ret_bool (by rw [HN.out];first|(rw [inv_not HSA.out,Hz.out];rfl)|(rw [inv_not HSA.out,inv_not HWA.out,Hz.out,Hx.out];rfl)),xw⟩)
end Go.Proofs.YtccjepndhlobpaaGreatDoor
