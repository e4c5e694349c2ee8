/-
  Plain facts and facts on memory that the walks lean on.
-/
import Derived.Test.YtccjepndhlobpaaGreatDoorC1
import Derived.Test.YtccjepndhlobpaaGreatDoorB0
import Derived.Test.YtccjepndhlobpaaGreatDoorS3
/-
  Walks: sortings, by the reference.
-/
namespace Go.Proofs.YtccjepndhlobpaaGreatDoor
open Go.RowKit
set_option linter.unusedVariables false
set_option linter.unusedSimpArgs false

theorem sortB_no2 {sig:List Ctl} {s:Srt} (h:sigB sig=false∨riseB 0 ((sig.length:Int) - 1) s.tops=false∨nestB sig s.nest=false∨inR (s.most.length:Int) 1 4=false∨sortsB sig s.sorts (s.most.length:Int)=false∨s.most.all mostOk=false∨pairsB (s.most.length:Int) s.apart=false):sortB sig s=false:=by
 unfold sortB
 rcases h with h|h|h|h|h|h|h <;> rw [h] <;> simp
theorem sortB_yes {sig:List Ctl} {s:Srt} (a:sigB sig=true) (b:riseB 0 ((sig.length:Int) - 1) s.tops=true) (c:nestB sig s.nest=true) (d:inR (s.most.length:Int) 1 4=true) (e:sortsB sig s.sorts (s.most.length:Int)=true) (f:s.most.all mostOk=true) (g:pairsB (s.most.length:Int) s.apart=true):sortB sig s=true:=by
 unfold sortB
 rw [a,b,c,d,e,f,g];rfl
theorem mostOk_eq (x:Int):mostOk x=inR x 0 24:=by unfold mostOk;rfl
theorem pairsB_of {many:Int} {l:List (Int × Int)} (h:(List.range l.length).all (pairOk many l)=true):pairsB many l=true:=by unfold pairsB;exact h
attribute [local irreducible] inR nameB riseB sigB nestB sortsB pairsB mostOk sortB pairLt
set_option maxRecDepth 100000 in
set_option maxHeartbeats 6400000 in
theorem c_spec_l7Good (lo hi lo' hi':Nat) (v:Value) (sig:List Ctl) (cs:List Value) (s:Srt) (w:World) (h:CtlsV lo hi w v sig) (hs:SrtP lo' hi' w cs s) :
 Calls Tryz.prog 101 #[v,.agg cs.toArray] w fun e w'=>e=.returned (.bool (sortB sig s))∧Ext w w':=by
 have hV:=h
 obtain ⟨a,k,rfl,g1,g2,g3,g4⟩:=h
 obtain ⟨v0,v1,v2,v3,v4,rfl,hT,hN,hS,hM,hA⟩:=hs
 obtain ⟨a3,k3,rfl,o1,o2,o3,o4⟩:=id hM
 obtain ⟨a4,k4,rfl,l1,l2,l3,l4⟩:=id hA
 unfold maxLen at g2 o2 l2
 obtain ⟨W0,hW0,hbx,hx0,hz0⟩:=box_facts w [v0,v1,v2,.slice a3 s.most.length k3,.slice a4 s.apart.length k4] 39
 have p0:=(hbx 0 _ rfl).1
 have p1:=(hbx 1 _ rfl).1
 have p2:=(hbx 2 _ rfl).1
 have p3:=(hbx 3 _ rfl).1
 have p4:=(hbx 4 _ rfl).1
 clear hz0
 replace hV:=hV.ext CtlP.keeps hx0
 replace hT:=hT.ext IntP.keeps hx0
 replace hN:=hN.ext RowP.keeps hx0
 replace hS:=hS.ext RowP.keeps hx0
 go_enter Tryz.func101,Tryz.ntmps101
 have Hb:=Lib.hid trivial
 have Hc:=Lib.hid trivial
 have Hd:=Lib.hid trivial
 have He:=Lib.hid trivial
 cases ha:sigB sig
 have Ha:=Lib.hid ha;clear ha
 have isF:=trivial
 rotate_left
 have Ha:=Lib.hid ha;clear ha
 cases hb:riseB 0 ((sig.length:Int) - 1) s.tops
 have Hb:=Lib.hid hb;clear hb
 have isF:=trivial
 rotate_left
 have Hb:=Lib.hid hb;clear hb
 cases hc:nestB sig s.nest
 have Hc:=Lib.hid hc;clear hc
 have isF:=trivial
 rotate_left
 have Hc:=Lib.hid hc;clear hc
 cases hd:inR (s.most.length:Int) 1 4
 have Hd:=Lib.hid hd;clear hd
 have isF:=trivial
 rotate_left
 have Hd:=Lib.hid hd;clear hd
 have hml:=inR_le Hd.out
 cases he:sortsB sig s.sorts (s.most.length:Int)
 have He:=Lib.hid he;clear he
 have isF:=trivial
 rotate_left
 have He:=Lib.hid he;clear he
 all_goals go_wp2_with (first|(go_at_call 151;(refine (c_spec_l7Sorts lo hi lo' hi' _ _ _ _ _ (by omega) (by omega) _ hV hS).mono ?_);rintro e y ⟨rfl,hb⟩;rw [He.out];replace p0:=Ext.keep hb p0;replace p1:=Ext.keep hb p1;replace p2:=Ext.keep hb p2;replace p3:=Ext.keep hb p3;replace p4:=Ext.keep hb p4;replace hV:=hV.ext CtlP.keeps hb;replace hT:=hT.ext IntP.keeps hb;replace hN:=hN.ext RowP.keeps hb;replace hS:=hS.ext RowP.keeps hb)|(go_at_call 106;(refine (c_spec_l1In _ _ _ _).mono ?_);rintro e y ⟨rfl,rfl⟩;rw [Hd.out])|(go_at_call 150;(refine (c_spec_l7Nest lo hi lo' hi' _ _ _ _ _ hV hN).mono ?_);rintro e y ⟨rfl,hb⟩;rw [Hc.out];replace p0:=Ext.keep hb p0;replace p1:=Ext.keep hb p1;replace p2:=Ext.keep hb p2;replace p3:=Ext.keep hb p3;replace p4:=Ext.keep hb p4;replace hV:=hV.ext CtlP.keeps hb;replace hT:=hT.ext IntP.keeps hb;replace hN:=hN.ext RowP.keeps hb;replace hS:=hS.ext RowP.keeps hb)|(go_at_call 149;(refine (c_spec_l7Controls lo hi lo' hi' _ _ _ _ _ hV hT).mono ?_);rintro e y ⟨rfl,hb⟩;rw [Hb.out];replace p0:=Ext.keep hb p0;replace p1:=Ext.keep hb p1;replace p2:=Ext.keep hb p2;replace p3:=Ext.keep hb p3;replace p4:=Ext.keep hb p4;replace hV:=hV.ext CtlP.keeps hb;replace hT:=hT.ext IntP.keeps hb;replace hN:=hN.ext RowP.keeps hb;replace hS:=hS.ext RowP.keeps hb)|(go_at_call 148;(refine (c_spec_l2Sig lo hi _ _ _ hV).mono ?_);rintro e y ⟨rfl,hb⟩;rw [Ha.out];replace p0:=Ext.keep hb p0;replace p1:=Ext.keep hb p1;replace p2:=Ext.keep hb p2;replace p3:=Ext.keep hb p3;replace p4:=Ext.keep hb p4;replace hV:=hV.ext CtlP.keeps hb;replace hT:=hT.ext IntP.keeps hb;replace hN:=hN.ext RowP.keeps hb;replace hS:=hS.ext RowP.keeps hb))
 all_goals first|(have:=isF;go_ret;exact ⟨ret_bool (sortB_no2 (by simp [Ha.out,Hb.out,Hc.out,Hd.out,He.out])).symm,xw⟩)|skip
 go_loopw [5] (fun c wr=>∃i:Nat,c=.int .i64 i∧i≤s.most.length∧(s.most.take i).all mostOk=true∧Ext y wr) (fun c _=>s.most.length - (intOf c).toNat)
 case atStart=>exact ⟨0,rfl,Nat.zero_le _,rfl,Ext.refl _⟩
 case round=>
  obtain ⟨i,rfl,hi0,hok,hx⟩:=hrel
  have HOK:=Lib.hid hok
  clear hok
  replace p3:=hx.keep p3
  replace p4:=hx.keep p4
  have hX:Ext w wr:=xw
  by_cases hlt:i<s.most.length
  ·rcases o4 with o4|⟨b,o,rfl,gb1,gb2,o4⟩
   ·rw [o4] at hlt;simp at hlt
   obtain ⟨cs,hl,⟨rfl,e1⟩,hc⟩:=o4 i hlt
   have q0:=hX.keep (hc 0 _ rfl)
   rw [Nat.mul_one,Nat.add_zero] at q0
   clear hc o4
   have HT:=Lib.hid (all_take_succ mostOk s.most i hlt)
   have hbad:=all_bad mostOk s.most i hlt
   have HE:=Lib.hid (mostOk_eq s.most[i])
   cases hf:inR s.most[i] 0 24
   have Hf:=Lib.hid hf;clear hf
   have HB:=Lib.hid (sortB_no2 (sig:=sig) (s:=s) (.inr (.inr (.inr (.inr (.inr (.inl (hbad (by rw [HE.out,Hf.out])))))))))
   clear hbad
   have isF:=trivial
   rotate_left
   have Hf:=Lib.hid hf;clear hf
   have isP:=trivial
   all_goals go_wp2_with (first|(go_at_call 106;(refine (c_spec_l1In _ _ _ _).mono ?_);rintro e y ⟨rfl,rfl⟩;rw [Hf.out]))
   all_goals first|(have:=isF;go_ret;exact ⟨ret_bool HB.out.symm,xw⟩)|(have:=isP;go_roundw;(case rel=>exact ⟨i+1,rfl,by omega,by rw [HT.out,HOK.out,HE.out,Hf.out];rfl,xw⟩);· simp only [intOf];omega)
  ·have HM:=Lib.hid (show s.most.all mostOk=true by rw [← HOK.out,List.take_of_length_le (by omega)])
   go_wp2
   go_loopw [6] (fun c wi=>∃i:Nat,c=.int .i64 i∧i≤s.apart.length∧(List.range i).all (pairOk (s.most.length:Int) s.apart)=true∧Ext wr wi) (fun c _=>s.apart.length - (intOf c).toNat)
   case atStart=>exact ⟨0,rfl,Nat.zero_le _,rfl,Ext.refl _⟩
   case round=>
    obtain ⟨n,rfl,hn0,hok,hxi⟩:=hrel
    have HOK2:=Lib.hid hok
    clear hok
    replace p3:=hxi.keep p3
    replace p4:=hxi.keep p4
    have hXi:Ext w wr:=xw
    by_cases hlt:n<s.apart.length
    ·rcases l4 with l4|⟨b,o,rfl,gb1,gb2,l4⟩
     ·rw [l4] at hlt;simp at hlt
     have hbad:pairOk (s.most.length:Int) s.apart n=false→sortB sig s=false:=fun hh=>sortB_no2 (.inr (.inr (.inr (.inr (.inr (.inr (pairsB_bad _ _ n hlt hh)))))))
     have HA:=Lib.hid (pairOk_at (s.most.length:Int) s.apart n hlt)
     have HS:=Lib.hid (range_all_succ (pairOk (s.most.length:Int) s.apart) n)
     obtain ⟨cs,hl,⟨rfl,e1,e2⟩,hc⟩:=l4 n hlt
     have q0:=hXi.keep (hc 0 _ rfl)
     have q1:=hXi.keep (hc 1 _ rfl)
     rw [Nat.add_zero] at q0
     clear hc
     unfold I64 at e1 e2
     by_cases hn:n=0
     ·subst hn
      simp only [Nat.zero_mul,Nat.add_zero] at q0 q1
      by_cases hg:s.apart[0].1<0
      ·have eg:decide (s.apart[0].1<0)=true:=decide_eq_true hg
       have HB:=Lib.hid (hbad (by rw [HA.out];simp;omega))
       clear hbad
       go_wp2_with fail
       refine wp_region_held_drew (S:=(fun w'=>BoxAt w' wr.heap.size [.int .i64 s.apart[0].1,.int .i64 s.apart[0].2]∧Ext wr w')) (by kernel_rfl) ?_ (fun hHeld=>?_)
       ·(refine ⟨?_,xw⟩;all_goals (intro j u hj;rcases j with _|_|_|_|_|_|_|_|j <;> simp at hj <;> (subst hj;simp)))
       refine tkP 0 ?_ ?_ ?_;rotate_left;focus (intro w;go_simp;try with_reducible rfl)
       try simp only [Act.put,aput]
       refine tkY 1 ?_ ?_ ?_;rotate_left;focus (intro w hSw;(try dsimp only at hSw);obtain ⟨bx0,sx⟩:=hSw;have c0_0:=(bx0 0 _ rfl).1;have c0_1:=(bx0 1 _ rfl).1;have s_p3:=Ext.keep sx p3;have s_p4:=Ext.keep sx p4;go_simp;try with_reducible rfl)
       try simp only [Act.put,aput]
       refine tkP 2 ?_ ?_ ?_;rotate_left;focus (intro w;go_simp;try with_reducible rfl)
       try simp only [Act.put,aput]
       refine tkP 3 ?_ ?_ ?_;rotate_left;focus (intro w;go_simp;try with_reducible rfl)
       try simp only [Act.put,aput]
       refine tkN 4 ?_
       try simp only [Act.put,aput]
       refine tkN 5 ?_
       try simp only [Act.put,aput]
       refine tkN 6 ?_
       try simp only [Act.put,aput]
       refine tkN 7 ?_
       try simp only [Act.put,aput]
       refine tkN 8 ?_
       try simp only [Act.put,aput]
       refine tkP 9 ?_ ?_ ?_;rotate_left;focus (intro w;go_simp;try with_reducible rfl)
       try simp only [Act.put,aput]
       refine tkP 10 ?_ ?_ ?_;rotate_left;focus (intro w;go_simp;try with_reducible rfl)
       try simp only [Act.put,aput]
       refine tkN 11 ?_
       try simp only [Act.put,aput]
       refine tkN 12 ?_
       try simp only [Act.put,aput]
       refine tkN 13 ?_
       try simp only [Act.put,aput]
       refine tkN 14 ?_
       try simp only [Act.put,aput]
       refine tkN 15 ?_
       try simp only [Act.put,aput]
       refine tkN 16 ?_
       try simp only [Act.put,aput]
       refine tkP 17 ?_ ?_ ?_;rotate_left;focus (intro w;go_simp;try with_reducible rfl)
       try simp only [Act.put,aput]
       refine tkP 18 ?_ ?_ ?_;rotate_left;focus (intro w;go_simp;try with_reducible rfl)
       try simp only [Act.put,aput]
       refine tkN 19 ?_
       try simp only [Act.put,aput]
       refine tkN 20 ?_
       try simp only [Act.put,aput]
       refine tkN 21 ?_
       try simp only [Act.put,aput]
       refine tkN 22 ?_
       try simp only [Act.put,aput]
       refine tkN 23 ?_
       try simp only [Act.put,aput]
       refine tkN 24 ?_
       try simp only [Act.put,aput]
       refine tkN 25 ?_
       try simp only [Act.put,aput]
       refine tkN 26 ?_
       try simp only [Act.put,aput]
       refine tkN 27 ?_
       try simp only [Act.put,aput]
       refine tkN 28 ?_
       try simp only [Act.put,aput]
       refine tkN 29 ?_
       try simp only [Act.put,aput]
       refine tkN 30 ?_
       try simp only [Act.put,aput]
       refine tkN 31 ?_
       try simp only [Act.put,aput]
       refine tkP 32 ?_ ?_ ?_;rotate_left;focus (intro w;go_simp;try with_reducible rfl)
       try simp only [Act.put,aput]
       refine wpAnyH_done (by kernel_rfl) ?_ _
       all_goals go_wp2
       all_goals go_ret
       all_goals exact ⟨ret_bool HB.out.symm,xw⟩
      have eg:decide (s.apart[0].1<0)=false:=decide_eq_false hg
      by_cases hh:s.apart[0].2≤s.apart[0].1
      ·have eh:decide (s.apart[0].2≤s.apart[0].1)=true:=decide_eq_true hh
       have HB:=Lib.hid (hbad (by rw [HA.out];simp;omega))
       clear hbad
       go_wp2_with fail
       refine wp_region_held_drew (S:=(fun w'=>BoxAt w' wr.heap.size [.int .i64 s.apart[0].1,.int .i64 s.apart[0].2]∧Ext wr w')) (by kernel_rfl) ?_ (fun hHeld=>?_)
       ·(refine ⟨?_,xw⟩;all_goals (intro j u hj;rcases j with _|_|_|_|_|_|_|_|j <;> simp at hj <;> (subst hj;simp)))
       refine tkP 0 ?_ ?_ ?_;rotate_left;focus (intro w;go_simp;try with_reducible rfl)
       try simp only [Act.put,aput]
       refine tkY 1 ?_ ?_ ?_;rotate_left;focus (intro w hSw;(try dsimp only at hSw);obtain ⟨bx0,sx⟩:=hSw;have c0_0:=(bx0 0 _ rfl).1;have c0_1:=(bx0 1 _ rfl).1;have s_p3:=Ext.keep sx p3;have s_p4:=Ext.keep sx p4;go_simp;try with_reducible rfl)
       try simp only [Act.put,aput]
       refine tkP 2 ?_ ?_ ?_;rotate_left;focus (intro w;go_simp;try with_reducible rfl)
       try simp only [Act.put,aput]
       refine tkP 3 ?_ ?_ ?_;rotate_left;focus (intro w;go_simp;try with_reducible rfl)
       try simp only [Act.put,aput]
       refine tkP 4 ?_ ?_ ?_;rotate_left;focus (intro w;go_simp;try with_reducible rfl)
       try simp only [Act.put,aput]
       refine tkY 5 ?_ ?_ ?_;rotate_left;focus (intro w hSw;(try dsimp only at hSw);obtain ⟨bx0,sx⟩:=hSw;have c0_0:=(bx0 0 _ rfl).1;have c0_1:=(bx0 1 _ rfl).1;have s_p3:=Ext.keep sx p3;have s_p4:=Ext.keep sx p4;go_simp;try with_reducible rfl)
       try simp only [Act.put,aput]
       refine tkP 6 ?_ ?_ ?_;rotate_left;focus (intro w;go_simp;try with_reducible rfl)
       try simp only [Act.put,aput]
       refine tkY 7 ?_ ?_ ?_;rotate_left;focus (intro w hSw;(try dsimp only at hSw);obtain ⟨bx0,sx⟩:=hSw;have c0_0:=(bx0 0 _ rfl).1;have c0_1:=(bx0 1 _ rfl).1;have s_p3:=Ext.keep sx p3;have s_p4:=Ext.keep sx p4;go_simp;try with_reducible rfl)
       try simp only [Act.put,aput]
       refine tkP 8 ?_ ?_ ?_;rotate_left;focus (intro w;go_simp;try with_reducible rfl)
       try simp only [Act.put,aput]
       refine tkP 9 ?_ ?_ ?_;rotate_left;focus (intro w;go_simp;try with_reducible rfl)
       try simp only [Act.put,aput]
       refine tkP 10 ?_ ?_ ?_;rotate_left;focus (intro w;go_simp;try with_reducible rfl)
       try simp only [Act.put,aput]
       refine tkN 11 ?_
       try simp only [Act.put,aput]
       refine tkN 12 ?_
       try simp only [Act.put,aput]
       refine tkN 13 ?_
       try simp only [Act.put,aput]
       refine tkN 14 ?_
       try simp only [Act.put,aput]
       refine tkN 15 ?_
       try simp only [Act.put,aput]
       refine tkN 16 ?_
       try simp only [Act.put,aput]
       refine tkP 17 ?_ ?_ ?_;rotate_left;focus (intro w;go_simp;try with_reducible rfl)
       try simp only [Act.put,aput]
       refine tkP 18 ?_ ?_ ?_;rotate_left;focus (intro w;go_simp;try with_reducible rfl)
       try simp only [Act.put,aput]
       refine tkN 19 ?_
       try simp only [Act.put,aput]
       refine tkN 20 ?_
       try simp only [Act.put,aput]
       refine tkN 21 ?_
       try simp only [Act.put,aput]
       refine tkN 22 ?_
       try simp only [Act.put,aput]
       refine tkN 23 ?_
       try simp only [Act.put,aput]
       refine tkN 24 ?_
       try simp only [Act.put,aput]
       refine tkN 25 ?_
       try simp only [Act.put,aput]
       refine tkN 26 ?_
       try simp only [Act.put,aput]
       refine tkN 27 ?_
       try simp only [Act.put,aput]
       refine tkN 28 ?_
       try simp only [Act.put,aput]
       refine tkN 29 ?_
       try simp only [Act.put,aput]
       refine tkN 30 ?_
       try simp only [Act.put,aput]
       refine tkN 31 ?_
       try simp only [Act.put,aput]
       refine tkP 32 ?_ ?_ ?_;rotate_left;focus (intro w;go_simp;try with_reducible rfl)
       try simp only [Act.put,aput]
       refine wpAnyH_done (by kernel_rfl) ?_ _
       all_goals go_wp2
       all_goals go_ret
       all_goals exact ⟨ret_bool HB.out.symm,xw⟩
      have eh:decide (s.apart[0].2≤s.apart[0].1)=false:=decide_eq_false hh
      by_cases hk:(s.most.length:Int)≤s.apart[0].2
      ·have ek:decide ((s.most.length:Int)≤s.apart[0].2)=true:=decide_eq_true hk
       have HB:=Lib.hid (hbad (by rw [HA.out];simp;omega))
       clear hbad
       go_wp2_with fail
       refine wp_region_held_drew (S:=(fun w'=>BoxAt w' wr.heap.size [.int .i64 s.apart[0].1,.int .i64 s.apart[0].2]∧Ext wr w')) (by kernel_rfl) ?_ (fun hHeld=>?_)
       ·(refine ⟨?_,xw⟩;all_goals (intro j u hj;rcases j with _|_|_|_|_|_|_|_|j <;> simp at hj <;> (subst hj;simp)))
       refine tkP 0 ?_ ?_ ?_;rotate_left;focus (intro w;go_simp;try with_reducible rfl)
       try simp only [Act.put,aput]
       refine tkY 1 ?_ ?_ ?_;rotate_left;focus (intro w hSw;(try dsimp only at hSw);obtain ⟨bx0,sx⟩:=hSw;have c0_0:=(bx0 0 _ rfl).1;have c0_1:=(bx0 1 _ rfl).1;have s_p3:=Ext.keep sx p3;have s_p4:=Ext.keep sx p4;go_simp;try with_reducible rfl)
       try simp only [Act.put,aput]
       refine tkP 2 ?_ ?_ ?_;rotate_left;focus (intro w;go_simp;try with_reducible rfl)
       try simp only [Act.put,aput]
       refine tkP 3 ?_ ?_ ?_;rotate_left;focus (intro w;go_simp;try with_reducible rfl)
       try simp only [Act.put,aput]
       refine tkP 4 ?_ ?_ ?_;rotate_left;focus (intro w;go_simp;try with_reducible rfl)
       try simp only [Act.put,aput]
       refine tkY 5 ?_ ?_ ?_;rotate_left;focus (intro w hSw;(try dsimp only at hSw);obtain ⟨bx0,sx⟩:=hSw;have c0_0:=(bx0 0 _ rfl).1;have c0_1:=(bx0 1 _ rfl).1;have s_p3:=Ext.keep sx p3;have s_p4:=Ext.keep sx p4;go_simp;try with_reducible rfl)
       try simp only [Act.put,aput]
       refine tkP 6 ?_ ?_ ?_;rotate_left;focus (intro w;go_simp;try with_reducible rfl)
       try simp only [Act.put,aput]
       refine tkY 7 ?_ ?_ ?_;rotate_left;focus (intro w hSw;(try dsimp only at hSw);obtain ⟨bx0,sx⟩:=hSw;have c0_0:=(bx0 0 _ rfl).1;have c0_1:=(bx0 1 _ rfl).1;have s_p3:=Ext.keep sx p3;have s_p4:=Ext.keep sx p4;go_simp;try with_reducible rfl)
       try simp only [Act.put,aput]
       refine tkP 8 ?_ ?_ ?_;rotate_left;focus (intro w;go_simp;try with_reducible rfl)
       try simp only [Act.put,aput]
       refine tkP 9 ?_ ?_ ?_;rotate_left;focus (intro w;go_simp;try with_reducible rfl)
       try simp only [Act.put,aput]
       refine tkP 10 ?_ ?_ ?_;rotate_left;focus (intro w;go_simp;try with_reducible rfl)
       try simp only [Act.put,aput]
       refine tkP 11 ?_ ?_ ?_;rotate_left;focus (intro w;go_simp;try with_reducible rfl)
       try simp only [Act.put,aput]
       refine tkY 12 ?_ ?_ ?_;rotate_left;focus (intro w hSw;(try dsimp only at hSw);obtain ⟨bx0,sx⟩:=hSw;have c0_0:=(bx0 0 _ rfl).1;have c0_1:=(bx0 1 _ rfl).1;have s_p3:=Ext.keep sx p3;have s_p4:=Ext.keep sx p4;go_simp;try with_reducible rfl)
       try simp only [Act.put,aput]
       refine tkP 13 ?_ ?_ ?_;rotate_left;focus (intro w;go_simp;try with_reducible rfl)
       try simp only [Act.put,aput]
       refine tkY 14 ?_ ?_ ?_;rotate_left;focus (intro w hSw;(try dsimp only at hSw);obtain ⟨bx0,sx⟩:=hSw;have c0_0:=(bx0 0 _ rfl).1;have c0_1:=(bx0 1 _ rfl).1;have s_p3:=Ext.keep sx p3;have s_p4:=Ext.keep sx p4;go_simp;try with_reducible rfl)
       try simp only [Act.put,aput]
       refine tkP 15 ?_ ?_ ?_;rotate_left;focus (intro w;go_simp;try with_reducible rfl)
       try simp only [Act.put,aput]
       refine tkP 16 ?_ ?_ ?_;rotate_left;focus (intro w;go_simp;try with_reducible rfl)
       try simp only [Act.put,aput]
       refine tkP 17 ?_ ?_ ?_;rotate_left;focus (intro w;go_simp;try with_reducible rfl)
       try simp only [Act.put,aput]
       refine tkP 18 ?_ ?_ ?_;rotate_left;focus (intro w;go_simp;try with_reducible rfl)
       try simp only [Act.put,aput]
       refine tkN 19 ?_
       try simp only [Act.put,aput]
       refine tkN 20 ?_
       try simp only [Act.put,aput]
       refine tkN 21 ?_
       try simp only [Act.put,aput]
       refine tkN 22 ?_
       try simp only [Act.put,aput]
       refine tkN 23 ?_
       try simp only [Act.put,aput]
       refine tkN 24 ?_
       try simp only [Act.put,aput]
       refine tkN 25 ?_
       try simp only [Act.put,aput]
       refine tkN 26 ?_
       try simp only [Act.put,aput]
       refine tkN 27 ?_
       try simp only [Act.put,aput]
       refine tkN 28 ?_
       try simp only [Act.put,aput]
       refine tkN 29 ?_
       try simp only [Act.put,aput]
       refine tkN 30 ?_
       try simp only [Act.put,aput]
       refine tkN 31 ?_
       try simp only [Act.put,aput]
       refine tkP 32 ?_ ?_ ?_;rotate_left;focus (intro w;go_simp;try with_reducible rfl)
       try simp only [Act.put,aput]
       refine wpAnyH_done (by kernel_rfl) ?_ _
       all_goals go_wp2
       all_goals go_ret
       all_goals exact ⟨ret_bool HB.out.symm,xw⟩
      have ek:decide ((s.most.length:Int)≤s.apart[0].2)=false:=decide_eq_false hk
      have HG:=Lib.hid (show pairOk (s.most.length:Int) s.apart 0=true by rw [HA.out];simp;omega)
      clear hbad
      go_wp2_with fail
      refine wp_region_held_drew (S:=(fun w'=>BoxAt w' wr.heap.size [.int .i64 s.apart[0].1,.int .i64 s.apart[0].2]∧Ext wr w')) (by kernel_rfl) ?_ (fun hHeld=>?_)
      ·(refine ⟨?_,xw⟩;all_goals (intro j u hj;rcases j with _|_|_|_|_|_|_|_|j <;> simp at hj <;> (subst hj;simp)))
      refine tkP 0 ?_ ?_ ?_;rotate_left;focus (intro w;go_simp;try with_reducible rfl)
      try simp only [Act.put,aput]
      refine tkY 1 ?_ ?_ ?_;rotate_left;focus (intro w hSw;(try dsimp only at hSw);obtain ⟨bx0,sx⟩:=hSw;have c0_0:=(bx0 0 _ rfl).1;have c0_1:=(bx0 1 _ rfl).1;have s_p3:=Ext.keep sx p3;have s_p4:=Ext.keep sx p4;go_simp;try with_reducible rfl)
      try simp only [Act.put,aput]
      refine tkP 2 ?_ ?_ ?_;rotate_left;focus (intro w;go_simp;try with_reducible rfl)
      try simp only [Act.put,aput]
      refine tkP 3 ?_ ?_ ?_;rotate_left;focus (intro w;go_simp;try with_reducible rfl)
      try simp only [Act.put,aput]
      refine tkP 4 ?_ ?_ ?_;rotate_left;focus (intro w;go_simp;try with_reducible rfl)
      try simp only [Act.put,aput]
      refine tkY 5 ?_ ?_ ?_;rotate_left;focus (intro w hSw;(try dsimp only at hSw);obtain ⟨bx0,sx⟩:=hSw;have c0_0:=(bx0 0 _ rfl).1;have c0_1:=(bx0 1 _ rfl).1;have s_p3:=Ext.keep sx p3;have s_p4:=Ext.keep sx p4;go_simp;try with_reducible rfl)
      try simp only [Act.put,aput]
      refine tkP 6 ?_ ?_ ?_;rotate_left;focus (intro w;go_simp;try with_reducible rfl)
      try simp only [Act.put,aput]
      refine tkY 7 ?_ ?_ ?_;rotate_left;focus (intro w hSw;(try dsimp only at hSw);obtain ⟨bx0,sx⟩:=hSw;have c0_0:=(bx0 0 _ rfl).1;have c0_1:=(bx0 1 _ rfl).1;have s_p3:=Ext.keep sx p3;have s_p4:=Ext.keep sx p4;go_simp;try with_reducible rfl)
      try simp only [Act.put,aput]
      refine tkP 8 ?_ ?_ ?_;rotate_left;focus (intro w;go_simp;try with_reducible rfl)
      try simp only [Act.put,aput]
      refine tkP 9 ?_ ?_ ?_;rotate_left;focus (intro w;go_simp;try with_reducible rfl)
      try simp only [Act.put,aput]
      refine tkP 10 ?_ ?_ ?_;rotate_left;focus (intro w;go_simp;try with_reducible rfl)
      try simp only [Act.put,aput]
      refine tkP 11 ?_ ?_ ?_;rotate_left;focus (intro w;go_simp;try with_reducible rfl)
      try simp only [Act.put,aput]
      refine tkY 12 ?_ ?_ ?_;rotate_left;focus (intro w hSw;(try dsimp only at hSw);obtain ⟨bx0,sx⟩:=hSw;have c0_0:=(bx0 0 _ rfl).1;have c0_1:=(bx0 1 _ rfl).1;have s_p3:=Ext.keep sx p3;have s_p4:=Ext.keep sx p4;go_simp;try with_reducible rfl)
      try simp only [Act.put,aput]
      refine tkP 13 ?_ ?_ ?_;rotate_left;focus (intro w;go_simp;try with_reducible rfl)
      try simp only [Act.put,aput]
      refine tkY 14 ?_ ?_ ?_;rotate_left;focus (intro w hSw;(try dsimp only at hSw);obtain ⟨bx0,sx⟩:=hSw;have c0_0:=(bx0 0 _ rfl).1;have c0_1:=(bx0 1 _ rfl).1;have s_p3:=Ext.keep sx p3;have s_p4:=Ext.keep sx p4;go_simp;try with_reducible rfl)
      try simp only [Act.put,aput]
      refine tkP 15 ?_ ?_ ?_;rotate_left;focus (intro w;go_simp;try with_reducible rfl)
      try simp only [Act.put,aput]
      refine tkP 16 ?_ ?_ ?_;rotate_left;focus (intro w;go_simp;try with_reducible rfl)
      try simp only [Act.put,aput]
      refine tkP 17 ?_ ?_ ?_;rotate_left;focus (intro w;go_simp;try with_reducible rfl)
      try simp only [Act.put,aput]
      refine tkP 18 ?_ ?_ ?_;rotate_left;focus (intro w;go_simp;try with_reducible rfl)
      try simp only [Act.put,aput]
      refine tkP 19 ?_ ?_ ?_;rotate_left;focus (intro w;go_simp;try with_reducible rfl)
      try simp only [Act.put,aput]
      refine tkP 20 ?_ ?_ ?_;rotate_left;focus (intro w;go_simp;try with_reducible rfl)
      try simp only [Act.put,aput]
      refine tkP 21 ?_ ?_ ?_;rotate_left;focus (intro w;go_simp;try with_reducible rfl)
      try simp only [Act.put,aput]
      refine tkN 22 ?_
      try simp only [Act.put,aput]
      refine tkN 23 ?_
      try simp only [Act.put,aput]
      refine tkN 24 ?_
      try simp only [Act.put,aput]
      refine tkN 25 ?_
      try simp only [Act.put,aput]
      refine tkN 26 ?_
      try simp only [Act.put,aput]
      refine tkN 27 ?_
      try simp only [Act.put,aput]
      refine tkN 28 ?_
      try simp only [Act.put,aput]
      refine tkN 29 ?_
      try simp only [Act.put,aput]
      refine tkN 30 ?_
      try simp only [Act.put,aput]
      refine tkP 31 ?_ ?_ ?_;rotate_left;focus (intro w;go_simp;try with_reducible rfl)
      try simp only [Act.put,aput]
      refine tkP 32 ?_ ?_ ?_;rotate_left;focus (intro w;go_simp;try with_reducible rfl)
      try simp only [Act.put,aput]
      refine wpAnyH_done (by kernel_rfl) ?_ _
      all_goals go_wp2
      all_goals go_roundw
      case rel=>exact ⟨1,rfl,by omega,by rw [HS.out,HOK2.out,HG.out];rfl,xw⟩
      all_goals (simp only [intOf];omega)
     ·obtain ⟨j,rfl⟩:∃j,n=j+1:=⟨n - 1,by omega⟩
      obtain ⟨ds,hdl,⟨rfl,d1,d2⟩,hd⟩:=l4 j (by omega)
      have r0:=hXi.keep (hd 0 _ rfl)
      have r1:=hXi.keep (hd 1 _ rfl)
      rw [Nat.add_zero] at r0
      have hg:s.apart.getD j (0,0)=s.apart[j]:=by rw [List.getD_eq_getElem?_getD,List.getElem?_eq_getElem (by omega)];rfl
      have HG:=Lib.hid hg
      have jw:=IntWalk.i64_in (((j+1:Nat):Int) - 1) (by omega)
      have je:((j+1:Nat):Int) - 1=j:=by omega
      have jlt:j<s.apart.length:=by omega
      have jw3:=IntWalk.i64_in (j:Int) (by omega)
      have jp3:(0:Int)≤(j:Int):=by omega
      have jp4:(j:Int)<s.apart.length:=by omega
      have jp:0≤(j:Int)+1:=by omega
      have jp2:(j:Int)+1<s.apart.length:=by omega
      clear hd hg l4
      have hh:True:=trivial
      have hk:True:=trivial
      have Hm:=Lib.hid trivial
      by_cases hg:s.apart[j+1].1<0
      have eg:decide (s.apart[j+1].1<0)=true:=decide_eq_true hg
      have HB:=Lib.hid (hbad (by rw [HA.out,show j+1 - 1=j by omega,HG.out];first|(rw [Hm.out];simp;done)|(simp;omega)))
      clear hbad
      have isF:=trivial
      rotate_left
      have eg:decide (s.apart[j+1].1<0)=false:=decide_eq_false hg
      by_cases hh:s.apart[j+1].2≤s.apart[j+1].1
      have eh:decide (s.apart[j+1].2≤s.apart[j+1].1)=true:=decide_eq_true hh
      have HB:=Lib.hid (hbad (by rw [HA.out,show j+1 - 1=j by omega,HG.out];first|(rw [Hm.out];simp;done)|(simp;omega)))
      clear hbad
      have isF:=trivial
      rotate_left
      have eh:decide (s.apart[j+1].2≤s.apart[j+1].1)=false:=decide_eq_false hh
      by_cases hk:(s.most.length:Int)≤s.apart[j+1].2
      have ek:decide ((s.most.length:Int)≤s.apart[j+1].2)=true:=decide_eq_true hk
      have HB:=Lib.hid (hbad (by rw [HA.out,show j+1 - 1=j by omega,HG.out];first|(rw [Hm.out];simp;done)|(simp;omega)))
      clear hbad
      have isF:=trivial
      rotate_left
      have ek:decide ((s.most.length:Int)≤s.apart[j+1].2)=false:=decide_eq_false hk
      cases hm:pairLt s.apart[j] s.apart[j+1]
      have Hm:=Lib.hid hm;clear hm
      have HB:=Lib.hid (hbad (by rw [HA.out,show j+1 - 1=j by omega,HG.out];first|(rw [Hm.out];simp;done)|(simp;omega)))
      clear hbad
      have isF:=trivial
      rotate_left
      have Hm:=Lib.hid hm;clear hm
      have HG2:=Lib.hid (show pairOk (s.most.length:Int) s.apart (j+1)=true by rw [HA.out,show j+1 - 1=j by omega,HG.out,Hm.out];simp;omega)
      clear hbad
      have isP:=trivial
      all_goals go_wp2_with fail
      all_goals
       refine wp_region_held_drew (S:=(fun w'=>BoxAt w' wr.heap.size [.int .i64 s.apart[j+1].1,.int .i64 s.apart[j+1].2]∧Ext wr w')) (by kernel_rfl) ?_ (fun hHeld=>?_)
       ·(refine ⟨?_,xw⟩;all_goals (intro j u hj;rcases j with _|_|_|_|_|_|_|_|j <;> simp at hj <;> (subst hj;simp)))
       refine tkP 0 ?_ ?_ ?_;rotate_left;focus (intro w;go_simp;try with_reducible rfl)
       try simp only [Act.put,aput]
       refine tkY 1 ?_ ?_ ?_;rotate_left;focus (intro w hSw;(try dsimp only at hSw);obtain ⟨bx0,sx⟩:=hSw;have c0_0:=(bx0 0 _ rfl).1;have c0_1:=(bx0 1 _ rfl).1;have s_p3:=Ext.keep sx p3;have s_p4:=Ext.keep sx p4;have s_r0:=Ext.keep sx r0;have s_r1:=Ext.keep sx r1;go_simp;try with_reducible rfl)
       try simp only [Act.put,aput]
       refine tkP 2 ?_ ?_ ?_;rotate_left;focus (intro w;go_simp;try with_reducible rfl)
       try simp only [Act.put,aput]
       refine tkP 3 ?_ ?_ ?_;rotate_left;focus (intro w;go_simp;try with_reducible rfl)
       try simp only [Act.put,aput]
       first|refine tkN 4 ?_|(refine tkP 4 ?_ ?_ ?_;rotate_left;focus (intro w;go_simp;try with_reducible rfl))
       try simp only [Act.put,aput]
       first|refine tkN 5 ?_|(refine tkY 5 ?_ ?_ ?_;rotate_left;focus (intro w hSw;(try dsimp only at hSw);obtain ⟨bx0,sx⟩:=hSw;have c0_0:=(bx0 0 _ rfl).1;have c0_1:=(bx0 1 _ rfl).1;have s_p3:=Ext.keep sx p3;have s_p4:=Ext.keep sx p4;have s_r0:=Ext.keep sx r0;have s_r1:=Ext.keep sx r1;go_simp;try with_reducible rfl))
       try simp only [Act.put,aput]
       first|refine tkN 6 ?_|(refine tkP 6 ?_ ?_ ?_;rotate_left;focus (intro w;go_simp;try with_reducible rfl))
       try simp only [Act.put,aput]
       first|refine tkN 7 ?_|(refine tkY 7 ?_ ?_ ?_;rotate_left;focus (intro w hSw;(try dsimp only at hSw);obtain ⟨bx0,sx⟩:=hSw;have c0_0:=(bx0 0 _ rfl).1;have c0_1:=(bx0 1 _ rfl).1;have s_p3:=Ext.keep sx p3;have s_p4:=Ext.keep sx p4;have s_r0:=Ext.keep sx r0;have s_r1:=Ext.keep sx r1;go_simp;try with_reducible rfl))
       try simp only [Act.put,aput]
       first|refine tkN 8 ?_|(refine tkP 8 ?_ ?_ ?_;rotate_left;focus (intro w;go_simp;try with_reducible rfl))
       try simp only [Act.put,aput]
       refine tkP 9 ?_ ?_ ?_;rotate_left;focus (intro w;go_simp;try with_reducible rfl)
       try simp only [Act.put,aput]
       refine tkP 10 ?_ ?_ ?_;rotate_left;focus (intro w;go_simp;try with_reducible rfl)
       try simp only [Act.put,aput]
       first|refine tkN 11 ?_|(refine tkP 11 ?_ ?_ ?_;rotate_left;focus (intro w;go_simp;try with_reducible rfl))
       try simp only [Act.put,aput]
       first|refine tkN 12 ?_|(refine tkY 12 ?_ ?_ ?_;rotate_left;focus (intro w hSw;(try dsimp only at hSw);obtain ⟨bx0,sx⟩:=hSw;have c0_0:=(bx0 0 _ rfl).1;have c0_1:=(bx0 1 _ rfl).1;have s_p3:=Ext.keep sx p3;have s_p4:=Ext.keep sx p4;have s_r0:=Ext.keep sx r0;have s_r1:=Ext.keep sx r1;go_simp;try with_reducible rfl))
       try simp only [Act.put,aput]
       first|refine tkN 13 ?_|(refine tkP 13 ?_ ?_ ?_;rotate_left;focus (intro w;go_simp;try with_reducible rfl))
       try simp only [Act.put,aput]
       first|refine tkN 14 ?_|(refine tkY 14 ?_ ?_ ?_;rotate_left;focus (intro w hSw;(try dsimp only at hSw);obtain ⟨bx0,sx⟩:=hSw;have c0_0:=(bx0 0 _ rfl).1;have c0_1:=(bx0 1 _ rfl).1;have s_p3:=Ext.keep sx p3;have s_p4:=Ext.keep sx p4;have s_r0:=Ext.keep sx r0;have s_r1:=Ext.keep sx r1;go_simp;try with_reducible rfl))
       try simp only [Act.put,aput]
       first|refine tkN 15 ?_|(refine tkP 15 ?_ ?_ ?_;rotate_left;focus (intro w;go_simp;try with_reducible rfl))
       try simp only [Act.put,aput]
       first|refine tkN 16 ?_|(refine tkP 16 ?_ ?_ ?_;rotate_left;focus (intro w;go_simp;try with_reducible rfl))
       try simp only [Act.put,aput]
       refine tkP 17 ?_ ?_ ?_;rotate_left;focus (intro w;go_simp;try with_reducible rfl)
       try simp only [Act.put,aput]
       refine tkP 18 ?_ ?_ ?_;rotate_left;focus (intro w;go_simp;try with_reducible rfl)
       try simp only [Act.put,aput]
       first|refine tkN 19 ?_|(refine tkP 19 ?_ ?_ ?_;rotate_left;focus (intro w;go_simp;try with_reducible rfl))
       try simp only [Act.put,aput]
       first|refine tkN 20 ?_|(refine tkP 20 ?_ ?_ ?_;rotate_left;focus (intro w;go_simp;try with_reducible rfl))
       try simp only [Act.put,aput]
       first|refine tkN 21 ?_|(refine tkP 21 ?_ ?_ ?_;rotate_left;focus (intro w;go_simp;try with_reducible rfl))
       try simp only [Act.put,aput]
       first|refine tkN 22 ?_|(refine tkP 22 ?_ ?_ ?_;rotate_left;focus (intro w;go_simp;try with_reducible rfl))
       try simp only [Act.put,aput]
       first|refine tkN 23 ?_|(refine tkY 23 ?_ ?_ ?_;rotate_left;focus (intro w hSw;(try dsimp only at hSw);obtain ⟨bx0,sx⟩:=hSw;have c0_0:=(bx0 0 _ rfl).1;have c0_1:=(bx0 1 _ rfl).1;have s_p3:=Ext.keep sx p3;have s_p4:=Ext.keep sx p4;have s_r0:=Ext.keep sx r0;have s_r1:=Ext.keep sx r1;go_simp;try with_reducible rfl))
       try simp only [Act.put,aput]
       first|refine tkN 24 ?_|(refine tkP 24 ?_ ?_ ?_;rotate_left;focus (intro w;go_simp;try with_reducible rfl))
       try simp only [Act.put,aput]
       first|refine tkN 25 ?_|(refine tkP 25 ?_ ?_ ?_;rotate_left;focus (intro w;go_simp;try with_reducible rfl))
       try simp only [Act.put,aput]
       first|refine tkN 26 ?_|(refine tkP 26 ?_ ?_ ?_;rotate_left;focus (intro w;go_simp;try with_reducible rfl))
       try simp only [Act.put,aput]
       first|refine tkN 27 ?_|(refine tkY 27 ?_ ?_ ?_;rotate_left;focus (intro w hSw;(try dsimp only at hSw);obtain ⟨bx0,sx⟩:=hSw;have c0_0:=(bx0 0 _ rfl).1;have c0_1:=(bx0 1 _ rfl).1;have s_p3:=Ext.keep sx p3;have s_p4:=Ext.keep sx p4;have s_r0:=Ext.keep sx r0;have s_r1:=Ext.keep sx r1;go_simp;try with_reducible rfl))
       try simp only [Act.put,aput]
       first|refine tkN 28 ?_|(refine tkY 28 ?_ ?_ ?_;rotate_left;focus (intro w hSw;(try dsimp only at hSw);obtain ⟨bx0,sx⟩:=hSw;have c0_0:=(bx0 0 _ rfl).1;have c0_1:=(bx0 1 _ rfl).1;have s_p3:=Ext.keep sx p3;have s_p4:=Ext.keep sx p4;have s_r0:=Ext.keep sx r0;have s_r1:=Ext.keep sx r1;go_simp;try with_reducible rfl))
       try simp only [Act.put,aput]
       first|refine tkN 29 ?_|(refine wpAnyH_ready (rs:=[29]) (by kernel_rfl) (by simp) ?_;refine AllReadyH.cons rfl (fun K hK=>?_) AllReadyH.nil;(try simp only [aput]);go_simp;(go_at_call 152;(refine (c_spec_l7Before s.apart[j] s.apart[j+1] _).mono ?_);rintro e y ⟨rfl,hb⟩;rw [Hm.out]);show K _ _;refine hK.out _ _ (by (have hh:=hHeld;(try dsimp only at hh);exact ⟨hh.1.ext hb,hh.2.trans hb⟩)) (fun hHeld=>?_);clear hK K)
       try simp only [Act.put,aput]
       first|refine tkN 30 ?_|(refine tkP 30 ?_ ?_ ?_;rotate_left;focus (intro w;go_simp;try with_reducible rfl))
       try simp only [Act.put,aput]
       first|refine tkN 31 ?_|(refine tkP 31 ?_ ?_ ?_;rotate_left;focus (intro w;go_simp;try with_reducible rfl))
       try simp only [Act.put,aput]
       refine tkP 32 ?_ ?_ ?_;rotate_left;focus (intro w;go_simp;try with_reducible rfl)
       try simp only [Act.put,aput]
       refine wpAnyH_done (by kernel_rfl) ?_ _
      all_goals go_wp2
      all_goals first|(have:=isF;all_goals go_ret;all_goals exact ⟨ret_bool HB.out.symm,xw⟩)|(have:=isP;all_goals go_roundw;(case rel=>exact ⟨j+1+1,rfl,by omega,by rw [HS.out,HOK2.out,HG2.out];rfl,xw⟩);all_goals (simp only [intOf];omega))
    ·have e:n=s.apart.length:=by omega
     subst e
     go_wp2
     go_ret
     exact ⟨ret_bool (sortB_yes Ha.out Hb.out Hc.out Hd.out He.out HM.out (pairsB_of HOK2.out)).symm,xw⟩
end Go.Proofs.YtccjepndhlobpaaGreatDoor

/-
  Walks: names in order.
-/
namespace Go.Proofs.YtccjepndhlobpaaGreatDoor
open Go.RowKit
set_option linter.unusedVariables false
set_option linter.unusedSimpArgs false

/-- A text comes before another one. -/
def strLt (a b:ByteArray):Bool:=Op.bytesLess a.toList b.toList
theorem bytesLess_total:∀x y:List UInt8,(Op.bytesLess x y || (x == y)) = !(Op.bytesLess y x):=by
 intro x
 induction x with
 | nil=>intro y;cases y <;> simp [Op.bytesLess]
 | cons a x ih=>
  intro y
  cases y with
  | nil=>simp [Op.bytesLess]
  | cons b y=>
   simp only [Op.bytesLess]
   have hih:=ih y
   by_cases h1:a<b
   ·have h2:¬b<a:=by simp only [UInt8.lt_iff_toNat_lt] at *;omega
    have h3:¬b=a:=by intro h;subst h;exact h2 h1
    simp [h1,h2,h3]
   ·by_cases h2:b<a
    ·have h3:¬a=b:=by intro h;subst h;exact h1 h2
     simp [h1,h2,h3]
    ·have h3:a=b:=by
      simp only [UInt8.lt_iff_toNat_lt] at *
      exact UInt8.toNat_inj.1 (by omega)
     subst h3
     simp [h1]
     simpa using hih
theorem strLe_not (a b:ByteArray):(Op.bytesLess a.toList b.toList || (a.toList == b.toList)) = !(strLt b a):=bytesLess_total _ _
def nmOk (l:List ByteArray) (i:Nat):Bool:=match l[i]? with|none=>true|some s=>nameB s && (decide (i=0) || strLt (l.getD (i - 1) ⟨#[]⟩) s)
/-- Names are strictly ascending, not too many. -/
def namesB (l:List ByteArray):Bool:=(List.range l.length).all (nmOk l) && decide ((l.length:Int)≤16)
theorem nmOk_at (l:List ByteArray) (i:Nat) (h:i<l.length):nmOk l i=(nameB l[i] && (decide (i=0) || strLt (l.getD (i - 1) ⟨#[]⟩) l[i])):=by
 unfold nmOk;rw [List.getElem?_eq_getElem h]
theorem namesB_bad (l:List ByteArray) (i:Nat) (h:i<l.length) (hb:nmOk l i=false):namesB l=false:=by
 unfold namesB;rw [range_all_bad _ _ i h hb];rfl
attribute [local irreducible] inR nameB strLt
set_option maxHeartbeats 1600000 in
theorem c_impl_areNames (lo hi:Nat) (v:Value) (l:List ByteArray) (w:World) (h:StrsV lo hi w v l) :
 Calls Tryz.prog 178 #[v] w fun e w'=>e=.returned (.bool (namesB l))∧Ext w w':=by
 obtain ⟨a,k,rfl,g1,g2,g3,g4⟩:=h
 unfold maxLen at g2
 go_enter Tryz.func178,Tryz.ntmps178
 go_wp2
 go_loopw [7] (fun c wr=>∃i:Nat,c=.int .i64 i∧i≤l.length∧(List.range i).all (nmOk l)=true∧Ext w wr) (fun c _=>l.length - (intOf c).toNat)
 case atStart=>exact ⟨0,rfl,Nat.zero_le _,rfl,xw⟩
 case round=>
  obtain ⟨i,rfl,hi',hok,hx⟩:=hrel
  have HOK:=Lib.hid hok
  clear hok
  by_cases hlt:i<l.length
  ·rcases g4 with g4|⟨b,o,rfl,gb1,gb2,g4⟩
   ·subst g4;simp at hlt
   obtain ⟨cs,hl,⟨rfl,e1⟩,hc⟩:=g4 i hlt
   have q0:=hx.keep (hc 0 _ rfl)
   rw [Nat.mul_one,Nat.add_zero] at q0
   clear hc
   have hbad:=namesB_bad l i hlt
   have HA:=Lib.hid (nmOk_at l i hlt)
   have HS:=Lib.hid (range_all_succ (nmOk l) i)
   by_cases hn:i=0
   ·subst hn
    simp only [Nat.add_zero] at q0
    cases ha:nameB l[0]
    have Ha:=Lib.hid ha;clear ha
    have HB:=Lib.hid (hbad (by rw [HA.out];simp [Ha.out]))
    clear hbad
    have isF:=trivial
    rotate_left
    have Ha:=Lib.hid ha;clear ha
    have HG:=Lib.hid (show nmOk l 0=true by rw [HA.out];simp [Ha.out])
    clear hbad
    have isP:=trivial
    all_goals go_wp2_with (first|(go_at_call 56;(refine (c_impl_isName _ _ e1).mono ?_);rintro e y ⟨rfl,hb⟩;rw [Ha.out]))
    all_goals first|(have:=isF;go_ret;exact ⟨ret_bool HB.out.symm,xw⟩)|(have:=isP;go_roundw;(case rel=>exact ⟨1,rfl,by omega,by rw [HS.out,HOK.out,HG.out];rfl,xw⟩);· simp only [intOf];omega)
   ·obtain ⟨j,rfl⟩:∃j,i=j+1:=⟨i - 1,by omega⟩
    obtain ⟨ds,hdl,⟨rfl,d1⟩,hd⟩:=g4 j (by omega)
    have r0:=hx.keep (hd 0 _ rfl)
    rw [Nat.mul_one,Nat.add_zero] at r0
    have hg:l.getD j ⟨#[]⟩=l[j]:=by rw [List.getD_eq_getElem?_getD,List.getElem?_eq_getElem (by omega)];rfl
    have HG:=Lib.hid hg
    have HLE:=Lib.hid (strLe_not l[j+1] l[j])
    have jw:=IntWalk.i64_in (((j+1:Nat):Int) - 1) (by omega)
    have je:((j+1:Nat):Int) - 1=j:=by omega
    clear hd hg g4
    cases hle:strLt l[j] l[j+1]
    ·have HB:=Lib.hid (hbad (by rw [HA.out,show j+1 - 1=j by omega,HG.out,hle];simp))
     have hz:=HLE.out
     rw [hle] at hz
     have HZ:=Lib.hid hz
     clear hbad hle
     cases ha:nameB l[j+1]
     ·have Ha:=Lib.hid ha
      clear ha hz
      go_wp2_with (go_at_call 56;refine (c_impl_isName _ _ e1).mono ?_;rintro e y ⟨rfl,hb⟩;rw [Ha.out])
      go_ret
      exact ⟨ret_bool HB.out.symm,xw⟩
     ·have Ha:=Lib.hid ha
      clear ha
      go_wp2_with (go_at_call 56;refine (c_impl_isName _ _ e1).mono ?_;rintro e y ⟨rfl,hb⟩;rw [Ha.out];replace r0:=hb.keep r0)
      all_goals first
       | (go_ret;exact ⟨ret_bool HB.out.symm,xw⟩)
       | (exfalso;have hh:=HZ.out;simp_all;done)
    ·have hz:=HLE.out
     rw [hle] at hz
     have HL:=Lib.hid hle
     have HZ:=Lib.hid hz
     clear hle
     cases ha:nameB l[j+1]
     ·have HB:=Lib.hid (hbad (by rw [HA.out,ha];rfl))
      have Ha:=Lib.hid ha
      clear ha hbad hz
      go_wp2_with (go_at_call 56;refine (c_impl_isName _ _ e1).mono ?_;rintro e y ⟨rfl,hb⟩;rw [Ha.out])
      go_ret
      exact ⟨ret_bool HB.out.symm,xw⟩
     ·have HG2:=Lib.hid (show nmOk l (j+1)=true by rw [HA.out,show j+1 - 1=j by omega,HG.out,ha,HL.out];simp)
      have Ha:=Lib.hid ha
      clear ha hbad
      go_wp2_with (go_at_call 56;refine (c_impl_isName _ _ e1).mono ?_;rintro e y ⟨rfl,hb⟩;rw [Ha.out];replace r0:=hb.keep r0)
      all_goals first
       | (exfalso;have hh:=HZ.out;simp_all;done)
       | (go_roundw
          case rel=>exact ⟨j+1+1,rfl,by omega,by rw [HS.out,HOK.out,HG2.out];rfl,xw⟩
          case measure=>simp only [intOf];omega)
  ·have e:i=l.length:=by omega
   subst e
   have HL:=Lib.hid (show namesB l=decide ((l.length:Int)≤16) by unfold namesB;rw [HOK.out];rfl)
   go_wp2
   go_ret
   exact ⟨ret_bool HL.out.symm,xw⟩
set_option maxRecDepth 100000 in
set_option maxHeartbeats 1600000 in
theorem c_spec_l2Names (lo hi:Nat) (v:Value) (l:List ByteArray) (w:World) (h:StrsV lo hi w v l) :
 Calls Tryz.prog 204 #[v] w fun e w'=>e=.returned (.bool (namesB l))∧Ext w w':=by
 obtain ⟨a,k,rfl,g1,g2,g3,g4⟩:=h
 unfold maxLen at g2
 go_enter Tryz.func204,Tryz.ntmps204
 go_wp2
 go_loopw [3] (fun c wr=>∃i:Nat,c=.int .i64 i∧i≤l.length∧(List.range i).all (nmOk l)=true∧Ext w wr) (fun c _=>l.length - (intOf c).toNat)
 case atStart=>exact ⟨0,rfl,Nat.zero_le _,rfl,xw⟩
 case round=>
  obtain ⟨i,rfl,hi',hok,hx⟩:=hrel
  have HOK:=Lib.hid hok
  clear hok
  by_cases hlt:i<l.length
  ·rcases g4 with g4|⟨b,o,rfl,gb1,gb2,g4⟩
   ·subst g4;simp at hlt
   obtain ⟨cs,hl,⟨rfl,e1⟩,hc⟩:=g4 i hlt
   have q0:=hx.keep (hc 0 _ rfl)
   rw [Nat.mul_one,Nat.add_zero] at q0
   clear hc
   have hbad:=namesB_bad l i hlt
   have HA:=Lib.hid (nmOk_at l i hlt)
   have HS:=Lib.hid (range_all_succ (nmOk l) i)
   by_cases hn:i=0
   ·subst hn
    simp only [Nat.add_zero] at q0
    cases ha:nameB l[0]
    have Ha:=Lib.hid ha;clear ha
    have HB:=Lib.hid (hbad (by rw [HA.out];simp [Ha.out]))
    clear hbad
    have isF:=trivial
    rotate_left
    have Ha:=Lib.hid ha;clear ha
    have HG:=Lib.hid (show nmOk l 0=true by rw [HA.out];simp [Ha.out])
    clear hbad
    have isP:=trivial
    all_goals go_wp2_with fail
    all_goals
     refine wp_region_held_drew (S:=(fun w'=>Ext wr w')) (by kernel_rfl) ?_ (fun hHeld=>?_)
     ·refine xw
     refine tkP 0 ?_ ?_ ?_;rotate_left;focus (intro w;go_simp;try with_reducible rfl)
     try simp only [Act.put,aput]
     refine tkP 1 ?_ ?_ ?_;rotate_left;focus (intro w;go_simp;try with_reducible rfl)
     try simp only [Act.put,aput]
     refine tkP 2 ?_ ?_ ?_;rotate_left;focus (intro w;go_simp;try with_reducible rfl)
     try simp only [Act.put,aput]
     refine tkY 3 ?_ ?_ ?_;rotate_left;focus (intro w hSw;(try dsimp only at hSw);have sx:=hSw;have s_q0:=Ext.keep sx q0;go_simp;try with_reducible rfl)
     try simp only [Act.put,aput]
     refine wpAnyH_ready (rs:=[4]) (by kernel_rfl) (by simp) ?_
     refine AllReadyH.cons rfl (fun K hK=>?_) AllReadyH.nil
     (try simp only [aput])
     go_simp
     (go_at_call 154;(refine (c_spec_l2Name _ _ e1).mono ?_);rintro e y ⟨rfl,hb⟩;rw [Ha.out])
     show K _ _
     refine hK.out _ _ (by (have hh:=hHeld;(try dsimp only at hh);exact hh.trans hb)) (fun hHeld=>?_)
     clear hK K
     try simp only [Act.put,aput]
     refine tkP 5 ?_ ?_ ?_;rotate_left;focus (intro w;go_simp;try with_reducible rfl)
     try simp only [Act.put,aput]
     refine tkP 6 ?_ ?_ ?_;rotate_left;focus (intro w;go_simp;try with_reducible rfl)
     try simp only [Act.put,aput]
     first|refine tkN 7 ?_|(refine tkP 7 ?_ ?_ ?_;rotate_left;focus (intro w;go_simp;try with_reducible rfl))
     try simp only [Act.put,aput]
     first|refine tkN 8 ?_|(refine tkP 8 ?_ ?_ ?_;rotate_left;focus (intro w;go_simp;try with_reducible rfl))
     try simp only [Act.put,aput]
     first|refine tkN 9 ?_|(refine tkP 9 ?_ ?_ ?_;rotate_left;focus (intro w;go_simp;try with_reducible rfl))
     try simp only [Act.put,aput]
     first|refine tkN 10 ?_|(refine tkP 10 ?_ ?_ ?_;rotate_left;focus (intro w;go_simp;try with_reducible rfl))
     try simp only [Act.put,aput]
     first|refine tkN 11 ?_|(refine tkP 11 ?_ ?_ ?_;rotate_left;focus (intro w;go_simp;try with_reducible rfl))
     try simp only [Act.put,aput]
     first|refine tkN 12 ?_|(refine tkP 12 ?_ ?_ ?_;rotate_left;focus (intro w;go_simp;try with_reducible rfl))
     try simp only [Act.put,aput]
     first|refine tkN 13 ?_|(refine tkP 13 ?_ ?_ ?_;rotate_left;focus (intro w;go_simp;try with_reducible rfl))
     try simp only [Act.put,aput]
     first|refine tkN 14 ?_|(refine tkY 14 ?_ ?_ ?_;rotate_left;focus (intro w hSw;(try dsimp only at hSw);have sx:=hSw;have s_q0:=Ext.keep sx q0;go_simp;try with_reducible rfl))
     try simp only [Act.put,aput]
     first|refine tkN 15 ?_|(refine tkP 15 ?_ ?_ ?_;rotate_left;focus (intro w;go_simp;try with_reducible rfl))
     try simp only [Act.put,aput]
     first|refine tkN 16 ?_|(refine tkP 16 ?_ ?_ ?_;rotate_left;focus (intro w;go_simp;try with_reducible rfl))
     try simp only [Act.put,aput]
     first|refine tkN 17 ?_|(refine tkP 17 ?_ ?_ ?_;rotate_left;focus (intro w;go_simp;try with_reducible rfl))
     try simp only [Act.put,aput]
     first|refine tkN 18 ?_|(refine tkY 18 ?_ ?_ ?_;rotate_left;focus (intro w hSw;(try dsimp only at hSw);have sx:=hSw;have s_q0:=Ext.keep sx q0;go_simp;try with_reducible rfl))
     try simp only [Act.put,aput]
     first|refine tkN 19 ?_|(refine tkP 19 ?_ ?_ ?_;rotate_left;focus (intro w;go_simp;try with_reducible rfl))
     try simp only [Act.put,aput]
     first|refine tkN 20 ?_|(refine tkP 20 ?_ ?_ ?_;rotate_left;focus (intro w;go_simp;try with_reducible rfl))
     try simp only [Act.put,aput]
     refine tkP 21 ?_ ?_ ?_;rotate_left;focus (intro w;go_simp;try with_reducible rfl)
     try simp only [Act.put,aput]
     refine wpAnyH_done (by kernel_rfl) ?_ _
    all_goals go_wp2
    all_goals first|(have:=isF;all_goals go_ret;all_goals exact ⟨ret_bool HB.out.symm,xw⟩)|(have:=isP;all_goals go_roundw;(case rel=>exact ⟨1,rfl,by omega,by rw [HS.out,HOK.out,HG.out];rfl,xw⟩);all_goals (simp only [intOf];omega))
   ·obtain ⟨j,rfl⟩:∃j,i=j+1:=⟨i - 1,by omega⟩
    obtain ⟨ds,hdl,⟨rfl,d1⟩,hd⟩:=g4 j (by omega)
    have r0:=hx.keep (hd 0 _ rfl)
    rw [Nat.mul_one,Nat.add_zero] at r0
    have hg:l.getD j ⟨#[]⟩=l[j]:=by rw [List.getD_eq_getElem?_getD,List.getElem?_eq_getElem (by omega)];rfl
    have HG:=Lib.hid hg
    have HSL:strLt l[j] l[j+1]=Op.bytesLess l[j].toList l[j+1].toList:=by unfold strLt;rfl
    have jw:=IntWalk.i64_in (((j+1:Nat):Int) - 1) (by omega)
    have je:((j+1:Nat):Int) - 1=j:=by omega
    have jlt:j<l.length:=by omega
    have jw3:=IntWalk.i64_in (j:Int) (by omega)
    have jp3:(0:Int)≤(j:Int):=by omega
    have jp4:(j:Int)<l.length:=by omega
    have jp:0≤(j:Int)+1:=by omega
    have jp2:(j:Int)+1<l.length:=by omega
    have HSE:=Lib.hid HSL
    clear hd hg g4 HSL
    have Hb:=Lib.hid trivial
    cases ha:nameB l[j+1]
    have Ha:=Lib.hid ha;clear ha
    have HB:=Lib.hid (hbad (by rw [HA.out,show j+1 - 1=j by omega,HG.out,HSE.out];simp [Ha.out]))
    clear hbad
    have isF:=trivial
    rotate_left
    have Ha:=Lib.hid ha;clear ha
    cases hb:Op.bytesLess l[j].toList l[j+1].toList
    have Hb:=Lib.hid hb
    have HB:=Lib.hid (hbad (by rw [HA.out,show j+1 - 1=j by omega,HG.out,HSE.out];simp [Ha.out,Hb.out]))
    clear hbad
    have isF:=trivial
    rotate_left
    have Hb:=Lib.hid hb
    have HG2:=Lib.hid (show nmOk l (j+1)=true by rw [HA.out,show j+1 - 1=j by omega,HG.out,HSE.out];simp [Ha.out,Hb.out])
    clear hbad
    have isP:=trivial
    all_goals go_wp2_with fail
    all_goals
     refine wp_region_held_drew (S:=(fun w'=>Ext wr w')) (by kernel_rfl) ?_ (fun hHeld=>?_)
     ·refine xw
     refine tkP 0 ?_ ?_ ?_;rotate_left;focus (intro w;go_simp;try with_reducible rfl)
     try simp only [Act.put,aput]
     refine tkP 1 ?_ ?_ ?_;rotate_left;focus (intro w;go_simp;try with_reducible rfl)
     try simp only [Act.put,aput]
     refine tkP 2 ?_ ?_ ?_;rotate_left;focus (intro w;go_simp;try with_reducible rfl)
     try simp only [Act.put,aput]
     refine tkY 3 ?_ ?_ ?_;rotate_left;focus (intro w hSw;(try dsimp only at hSw);have sx:=hSw;have s_q0:=Ext.keep sx q0;have s_r0:=Ext.keep sx r0;go_simp;try with_reducible rfl)
     try simp only [Act.put,aput]
     refine wpAnyH_ready (rs:=[4]) (by kernel_rfl) (by simp) ?_
     refine AllReadyH.cons rfl (fun K hK=>?_) AllReadyH.nil
     (try simp only [aput])
     go_simp
     (go_at_call 154;(refine (c_spec_l2Name _ _ e1).mono ?_);rintro e y ⟨rfl,hb⟩;rw [Ha.out])
     show K _ _
     refine hK.out _ _ (by (have hh:=hHeld;(try dsimp only at hh);exact hh.trans hb)) (fun hHeld=>?_)
     clear hK K
     try simp only [Act.put,aput]
     refine tkP 5 ?_ ?_ ?_;rotate_left;focus (intro w;go_simp;try with_reducible rfl)
     try simp only [Act.put,aput]
     refine tkP 6 ?_ ?_ ?_;rotate_left;focus (intro w;go_simp;try with_reducible rfl)
     try simp only [Act.put,aput]
     first|refine tkN 7 ?_|(refine tkP 7 ?_ ?_ ?_;rotate_left;focus (intro w;go_simp;try with_reducible rfl))
     try simp only [Act.put,aput]
     first|refine tkN 8 ?_|(refine tkP 8 ?_ ?_ ?_;rotate_left;focus (intro w;go_simp;try with_reducible rfl))
     try simp only [Act.put,aput]
     first|refine tkN 9 ?_|(refine tkP 9 ?_ ?_ ?_;rotate_left;focus (intro w;go_simp;try with_reducible rfl))
     try simp only [Act.put,aput]
     first|refine tkN 10 ?_|(refine tkP 10 ?_ ?_ ?_;rotate_left;focus (intro w;go_simp;try with_reducible rfl))
     try simp only [Act.put,aput]
     first|refine tkN 11 ?_|(refine tkP 11 ?_ ?_ ?_;rotate_left;focus (intro w;go_simp;try with_reducible rfl))
     try simp only [Act.put,aput]
     first|refine tkN 12 ?_|(refine tkP 12 ?_ ?_ ?_;rotate_left;focus (intro w;go_simp;try with_reducible rfl))
     try simp only [Act.put,aput]
     first|refine tkN 13 ?_|(refine tkP 13 ?_ ?_ ?_;rotate_left;focus (intro w;go_simp;try with_reducible rfl))
     try simp only [Act.put,aput]
     first|refine tkN 14 ?_|(refine tkY 14 ?_ ?_ ?_;rotate_left;focus (intro w hSw;(try dsimp only at hSw);have sx:=hSw;have s_q0:=Ext.keep sx q0;have s_r0:=Ext.keep sx r0;go_simp;try with_reducible rfl))
     try simp only [Act.put,aput]
     first|refine tkN 15 ?_|(refine tkP 15 ?_ ?_ ?_;rotate_left;focus (intro w;go_simp;try with_reducible rfl))
     try simp only [Act.put,aput]
     first|refine tkN 16 ?_|(refine tkP 16 ?_ ?_ ?_;rotate_left;focus (intro w;go_simp;try with_reducible rfl))
     try simp only [Act.put,aput]
     first|refine tkN 17 ?_|(refine tkP 17 ?_ ?_ ?_;rotate_left;focus (intro w;go_simp;try with_reducible rfl))
     try simp only [Act.put,aput]
     first|refine tkN 18 ?_|(refine tkY 18 ?_ ?_ ?_;rotate_left;focus (intro w hSw;(try dsimp only at hSw);have sx:=hSw;have s_q0:=Ext.keep sx q0;have s_r0:=Ext.keep sx r0;go_simp;try with_reducible rfl))
     try simp only [Act.put,aput]
     first|refine tkN 19 ?_|(refine tkP 19 ?_ ?_ ?_;rotate_left;focus (intro w;go_simp;try with_reducible rfl))
     try simp only [Act.put,aput]
     first|refine tkN 20 ?_|(refine tkP 20 ?_ ?_ ?_;rotate_left;focus (intro w;go_simp;try with_reducible rfl))
     try simp only [Act.put,aput]
     refine tkP 21 ?_ ?_ ?_;rotate_left;focus (intro w;go_simp;try with_reducible rfl)
     try simp only [Act.put,aput]
     refine wpAnyH_done (by kernel_rfl) ?_ _
    all_goals go_wp2
    all_goals first|(have:=isF;all_goals go_ret;all_goals exact ⟨ret_bool HB.out.symm,xw⟩)|(have:=isP;all_goals go_roundw;(case rel=>exact ⟨j+1+1,rfl,by omega,by rw [HS.out,HOK.out,HG2.out];rfl,xw⟩);all_goals (simp only [intOf];omega))
  ·have e:i=l.length:=by omega
   subst e
   have HL:=Lib.hid (show namesB l=decide ((l.length:Int)≤16) by unfold namesB;rw [HOK.out];rfl)
   go_wp2
   go_ret
   exact ⟨ret_bool HL.out.symm,xw⟩
end Go.Proofs.YtccjepndhlobpaaGreatDoor

/-
  Walks: parts of bigraphs.
-/
namespace Go.Proofs.YtccjepndhlobpaaGreatDoor
open Go.RowKit
set_option linter.unusedVariables false
set_option linter.unusedSimpArgs false

def sgAt (sig:List Ctl) (k:Int):Ctl:=sig.getD k.toNat ⟨⟨#[]⟩,0,0⟩
def ndAt (b:Big) (k:Int):Nd:=b.nodes.getD k.toNat ⟨0,0,[]⟩
/-- A place may be a parent. -/
def underB (sig:List Ctl) (b:Big) (p below:Int):Bool:=if p<0 then decide (-b.roots≤p) else decide (p<below) && !(decide ((sgAt sig (ndAt b p).control).kind=2))
/-- A number is a link. -/
def linkB (b:Big) (l:Int):Bool:=inR l 0 (b.edges+b.outer.length - 1)
def CtlIn (sig:List Ctl) (b:Big) (n:Int):Prop:=∀i (h:i<b.nodes.length),(i:Int)<n→0≤b.nodes[i].control∧b.nodes[i].control<sig.length
theorem ndAt_nat (b:Big) (i:Nat) (h:i<b.nodes.length):ndAt b i=b.nodes[i]:=by
 unfold ndAt;rw [Int.toNat_natCast,List.getD_eq_getElem?_getD,List.getElem?_eq_getElem h];rfl
theorem sgAt_nat (sig:List Ctl) (i:Nat) (h:i<sig.length):sgAt sig i=sig[i]:=by
 unfold sgAt;rw [Int.toNat_natCast,List.getD_eq_getElem?_getD,List.getElem?_eq_getElem h];rfl
theorem underB_neg {sig:List Ctl} {b:Big} {p below:Int} (h:p<0):underB sig b p below=decide (-b.roots≤p):=if_pos h
theorem underB_neg2 {sig:List Ctl} {b:Big} {p below:Int} (h:p<0) (h2:I64 p):inR (-1 - p) 0 (b.roots - 1)=underB sig b p below:=by
 rw [underB_neg h];unfold inR;rw [Bool.eq_iff_iff];simp;omega
theorem underB_pos {sig:List Ctl} {b:Big} {p below:Int} (h:¬p<0):underB sig b p below=(decide (p<below) && !(decide ((sgAt sig (ndAt b p).control).kind=2))):=if_neg h
theorem take_names (xs:List Wr) (i:Nat) (h:i<xs.length):(xs.take (i+1)).map Wr.name=(xs.take i).map Wr.name++[xs[i].name]:=by
 rw [List.take_succ_eq_append_getElem h,List.map_append];rfl
theorem take_len {α β:Type} (f:α→β) (xs:List α) (i:Nat) (h:i≤xs.length):((xs.take i).map f).length=i:=by simp;omega
attribute [local irreducible] inR nameB strLt
set_option maxRecDepth 100000 in
set_option maxHeartbeats 1600000 in
theorem c_impl_Bigraph_innerNames (lo hi:Nat) (cs:List Value) (b:Big) (w:World) (h:BigP lo hi w cs b) (hlen:b.inner.length≤1048576) :
 Calls Tryz.prog 179 #[.agg cs.toArray] w fun e w'=>∃v,e=.returned v∧SlV 1 StrP w.heap.size w'.heap.size w' v (b.inner.map Wr.name)∧Ext w w':=by
 obtain ⟨v1,v2,v4,v5,rfl,r1,r2,hN,hS,hO,hI⟩:=h
 obtain ⟨a5,k5,rfl,g1,g2,g3,g4⟩:=hI
 unfold maxLen at g2
 obtain ⟨i0,hi0,hz0,hz1,hz2⟩:=info_parts infoStr
 obtain ⟨W0,hW0,hbx,hx0,hz⟩:=box_facts w [.int .i64 b.roots,v1,v2,.int .i64 b.edges,v4,.slice a5 b.inner.length k5] 44
 have p5:=(hbx 5 _ rfl).1
 have hrow0:RowL 1 StrP 9 W0.heap.size (W0.alloc (.cells #[] 9)) (.slice (some ⟨W0.heap.size,0,none⟩) 0 0) []:=RowL.made (Nat.le_refl _)
 have hz':w.heap.size<W0.heap.size:=by omega
 clear hz
 go_enter Tryz.func179,Tryz.ntmps179
 go_wp2
 go_loopw [10,3] (fun c v wr=>∃i:Nat,c=.int .i64 i∧i≤b.inner.length∧RowL 1 StrP 9 W0.heap.size wr v ((b.inner.take i).map Wr.name)∧Ext W0 wr) (fun c _ _=>b.inner.length - (intOf c).toNat)
 case atStart=>exact ⟨0,rfl,Nat.zero_le _,by simpa using hrow0,xw⟩
 case round=>
  obtain ⟨i,rfl,hi',hrow,hx⟩:=hrel
  replace p5:=hx.keep p5
  have hX:Ext w wr:=xw
  by_cases hlt:i<b.inner.length
  ·rcases g4 with g4|⟨b',o,rfl,gb1,gb2,g4⟩
   ·rw [g4] at hlt;simp at hlt
   obtain ⟨cs,hl,⟨rfl,e1,e2⟩,hc⟩:=g4 i hlt
   have q0:=hX.keep (hc 0 _ rfl)
   have q1:=hX.keep (hc 1 _ rfl)
   rw [Nat.add_zero] at q0
   clear hc g4
   have HT:=Lib.hid (take_names b.inner i hlt)
   have HL:=Lib.hid (take_len Wr.name b.inner i hi')
   have hsz:=Below.size hx
   go_wp2_with (at_builtin;refine wpList_append_row StrP.keeps rfl (.tmp 14) (.tmp 17) 29 rfl (W0.heap.size) 9 i0 _ 16 Tryz.underlying29 hi0 hz0 hz1 hz2 rfl (by decide) _ _ (by rfl) (hrow.ext StrP.keeps xw) ⟨wr.heap.size+1,0,none⟩ 1 [.string b.inner[i].name] rfl rfl (one_cell (by simp)) (by simp [Value.oneCell']) (W0.heap.size) (W0.heap.size) (Nat.le_refl _) (by first|omega|(simp;omega)) (fun g hg=>.inr (hrow.block g hg).1) (b.inner[i].name) ⟨rfl,e1⟩ (by first|omega|(simp;omega)) (by decide) (by first|omega|(simp;omega)) ?_;intro v3 w3 row3 ext3)
   have hx3:=ext3 W0 xw (Nat.le_refl _)
   go_roundw
   case rel=>exact ⟨i+1,rfl,by omega,by rw [HT.out];exact row3,xw⟩
   ·simp only [intOf];omega
  ·have HT:=Lib.hid (show b.inner.take i=b.inner from List.take_of_length_le (by omega))
   go_wp2
   go_ret
   rw [HT.out] at hrow
   exact ⟨_,rfl,hrow.toSlV StrP.widens (by omega),hX⟩
set_option maxRecDepth 100000 in
set_option maxHeartbeats 1600000 in
theorem c_spec_l2Inner (lo hi:Nat) (cs:List Value) (b:Big) (w:World) (h:BigP lo hi w cs b) (hlen:b.inner.length≤1048576) :
 Calls Tryz.prog 205 #[.agg cs.toArray] w fun e w'=>∃v,e=.returned v∧SlV 1 StrP w.heap.size w'.heap.size w' v (b.inner.map Wr.name)∧Ext w w':=by
 obtain ⟨v1,v2,v4,v5,rfl,r1,r2,hN,hS,hO,hI⟩:=h
 obtain ⟨a5,k5,rfl,g1,g2,g3,g4⟩:=hI
 unfold maxLen at g2
 obtain ⟨i0,hi0,hz0,hz1,hz2⟩:=info_parts infoStr
 obtain ⟨W0,hW0,hbx,hx0,hz⟩:=box_facts w [.int .i64 b.roots,v1,v2,.int .i64 b.edges,v4,.slice a5 b.inner.length k5] 44
 have p5:=(hbx 5 _ rfl).1
 have hrow0:RowL 1 StrP 9 W0.heap.size (W0.alloc (.cells #[] 9)) (.slice (some ⟨W0.heap.size,0,none⟩) 0 0) []:=RowL.made (Nat.le_refl _)
 have hz':w.heap.size<W0.heap.size:=by omega
 clear hz
 go_enter Tryz.func205,Tryz.ntmps205
 go_wp2
 go_loopw [3,4] (fun v c wr=>∃i:Nat,c=.int .i64 i∧i≤b.inner.length∧RowL 1 StrP 9 W0.heap.size wr v ((b.inner.take i).map Wr.name)∧Ext W0 wr) (fun _ c _=>b.inner.length - (intOf c).toNat)
 case atStart=>exact ⟨0,rfl,Nat.zero_le _,by simpa using hrow0,xw⟩
 case round=>
  obtain ⟨i,rfl,hi',hrow,hx⟩:=hrel
  replace p5:=hx.keep p5
  have hX:Ext w wr:=xw
  by_cases hlt:i<b.inner.length
  ·rcases g4 with g4|⟨b',o,rfl,gb1,gb2,g4⟩
   ·rw [g4] at hlt;simp at hlt
   obtain ⟨cs,hl,⟨rfl,e1,e2⟩,hc⟩:=g4 i hlt
   have q0:=hX.keep (hc 0 _ rfl)
   have q1:=hX.keep (hc 1 _ rfl)
   rw [Nat.add_zero] at q0
   clear hc g4
   have HT:=Lib.hid (take_names b.inner i hlt)
   have HL:=Lib.hid (take_len Wr.name b.inner i hi')
   have hsz:=Below.size hx
   go_wp2_with (at_builtin;refine wpList_append_row StrP.keeps rfl (.tmp 13) (.tmp 20) 29 rfl (W0.heap.size) 9 i0 _ 16 Tryz.underlying29 hi0 hz0 hz1 hz2 rfl (by decide) _ _ (by rfl) (hrow.ext StrP.keeps xw) ⟨wr.heap.size,0,none⟩ 1 [.string b.inner[i].name] rfl rfl (one_cell (by simp)) (by simp [Value.oneCell']) (W0.heap.size) (W0.heap.size) (Nat.le_refl _) (by first|omega|(simp;omega)) (fun g hg=>.inr (hrow.block g hg).1) (b.inner[i].name) ⟨rfl,e1⟩ (by first|omega|(simp;omega)) (by decide) (by first|omega|(simp;omega)) ?_;intro v3 w3 row3 ext3)
   have hx3:=ext3 W0 xw (Nat.le_refl _)
   go_roundw
   case rel=>exact ⟨i+1,rfl,by omega,by rw [HT.out];exact row3,xw⟩
   ·simp only [intOf];omega
  ·have HT:=Lib.hid (show b.inner.take i=b.inner from List.take_of_length_le (by omega))
   go_wp2
   go_ret
   rw [HT.out] at hrow
   exact ⟨_,rfl,hrow.toSlV StrP.widens (by omega),hX⟩
theorem c_impl_Bigraph_isLink (lo hi:Nat) (cs:List Value) (b:Big) (l:Int) (w:World) (h:BigP lo hi w cs b) (he:inR b.edges 0 8=true) (ho:b.outer.length≤1000) :
 Calls Tryz.prog 182 #[.agg cs.toArray,.int .i64 l] w fun e w'=>e=.returned (.bool (linkB b l))∧Ext w w':=by
 obtain ⟨v1,v2,v4,v5,rfl,r1,r2,hN,hS,hO,hI⟩:=h
 obtain ⟨a4,k4,rfl,g1,g2,g3,g4⟩:=hO
 have he':=inR_le he
 unfold maxLen at g2
 clear he
 obtain ⟨W0,hW0,hbx,hx0,hz⟩:=box_facts w [.int .i64 b.roots,v1,v2,.int .i64 b.edges,.slice a4 b.outer.length k4,v5] 44
 have p3:=(hbx 3 _ rfl).1
 have p4:=(hbx 4 _ rfl).1
 clear hz g4 hbx
 go_enter Tryz.func182,Tryz.ntmps182
 go_wp2_with (go_at_call 55;refine (c_impl_within _ _ _ _).mono ?_;rintro e y ⟨rfl,rfl⟩)
 go_ret
 exact ⟨rfl,hx0⟩
theorem c_spec_l2Link (lo hi:Nat) (cs:List Value) (b:Big) (l:Int) (w:World) (h:BigP lo hi w cs b) (he:inR b.edges 0 8=true) (ho:b.outer.length≤1000) :
 Calls Tryz.prog 208 #[.agg cs.toArray,.int .i64 l] w fun e w'=>e=.returned (.bool (linkB b l))∧Ext w w':=by
 obtain ⟨v1,v2,v4,v5,rfl,r1,r2,hN,hS,hO,hI⟩:=h
 obtain ⟨a4,k4,rfl,g1,g2,g3,g4⟩:=hO
 have he':=inR_le he
 unfold maxLen at g2
 clear he
 obtain ⟨W0,hW0,hbx,hx0,hz⟩:=box_facts w [.int .i64 b.roots,v1,v2,.int .i64 b.edges,.slice a4 b.outer.length k4,v5] 44
 have p3:=(hbx 3 _ rfl).1
 have p4:=(hbx 4 _ rfl).1
 clear hz g4 hbx
 go_enter Tryz.func208,Tryz.ntmps208
 go_wp2_with (go_at_call 106;refine (c_spec_l1In _ _ _ _).mono ?_;rintro e y ⟨rfl,rfl⟩)
 go_ret
 exact ⟨rfl,hx0⟩
set_option maxHeartbeats 800000 in
theorem c_impl_Bigraph_isParent (lo hi lo' hi':Nat) (v:Value) (sig:List Ctl) (cs:List Value) (b:Big) (p below:Int) (w:World) (hV:CtlsV lo hi w v sig) (h:BigP lo' hi' w cs b) (hp:I64 p) (hr:inR b.roots 0 4=true) (hb0:below≤b.nodes.length) (hc:CtlIn sig b below) :
 Calls Tryz.prog 180 #[.agg cs.toArray,v,.int .i64 p,.int .i64 below] w fun e w'=>e=.returned (.bool (underB sig b p below))∧Ext w w':=by
 obtain ⟨v1,v2,v4,v5,rfl,r1,r2,hN,hS,hO,hI⟩:=h
 obtain ⟨a1,k1,rfl,g1,g2,g3,g4⟩:=hN
 obtain ⟨a,k,rfl,m1,m2,m3,m4⟩:=hV
 have hr':=inR_le hr
 unfold maxLen at g2 m2
 clear hr
 obtain ⟨W0,hW0,hbx,hx0,hz⟩:=box_facts w [.int .i64 b.roots,.slice a1 b.nodes.length k1,v2,.int .i64 b.edges,v4,v5] 44
 have p0:=(hbx 0 _ rfl).1
 have p1:=(hbx 1 _ rfl).1
 clear hz hbx
 by_cases hn:p<0
 ·have HU:=Lib.hid (underB_neg (sig:=sig) (b:=b) (below:=below) hn)
  go_enter Tryz.func180,Tryz.ntmps180
  go_wp2
  go_ret
  exact ⟨ret_bool HU.out.symm,hx0⟩
 ·have HU:=Lib.hid (underB_pos (sig:=sig) (b:=b) (below:=below) hn)
  by_cases hlt:p<below
  ·obtain ⟨n,rfl⟩:=Int.eq_ofNat_of_zero_le (show 0≤p by omega)
   have hnl:n<b.nodes.length:=by omega
   obtain ⟨c1,c2⟩:=hc n hnl hlt
   rcases g4 with g4|⟨b1,o1,rfl,gb1,gb2,g4⟩
   ·rw [g4] at hnl;simp at hnl
   obtain ⟨cs,hl,⟨nv,rfl,e1,e2,e3⟩,hcs⟩:=g4 n hnl
   have q0:=hx0.keep (hcs 0 _ rfl)
   rw [Nat.add_zero] at q0
   obtain ⟨m,hm⟩:=Int.eq_ofNat_of_zero_le c1
   have hml:m<sig.length:=by omega
   rcases m4 with m4|⟨b2,o2,rfl,mb1,mb2,m4⟩
   ·rw [m4] at hml;simp at hml
   obtain ⟨ds,dl,⟨rfl,d1,d2,d3⟩,hds⟩:=m4 m hml
   have s2:=hx0.keep (hds 2 _ rfl)
   have HK:=Lib.hid (show sgAt sig (ndAt b (n:Int)).control=sig[m] by rw [ndAt_nat b n hnl,hm,sgAt_nat sig m hml])
   rw [hm] at q0
   clear hm hcs hds g4 m4 c1 c2 hc
   have dd:decide ((n:Int)<below)=true:=decide_eq_true hlt
   go_enter Tryz.func180,Tryz.ntmps180
   go_wp2
   go_ret
   exact ⟨ret_bool (by rw [HU.out,HK.out,dd];by_cases hh:sig[m].kind=2 <;> simp [hh]),hx0⟩
  ·have dd:decide (p<below)=false:=decide_eq_false hlt
   go_enter Tryz.func180,Tryz.ntmps180
   go_wp2
   go_ret
   exact ⟨ret_bool (by rw [HU.out,dd];rfl),hx0⟩
set_option maxHeartbeats 800000 in
theorem c_spec_l2Under (lo hi lo' hi':Nat) (v:Value) (sig:List Ctl) (cs:List Value) (b:Big) (p below:Int) (w:World) (hV:CtlsV lo hi w v sig) (h:BigP lo' hi' w cs b) (hp:I64 p) (hr:inR b.roots 0 4=true) (hb0:below≤b.nodes.length) (hc:CtlIn sig b below) :
 Calls Tryz.prog 207 #[v,.agg cs.toArray,.int .i64 p,.int .i64 below] w fun e w'=>e=.returned (.bool (underB sig b p below))∧Ext w w':=by
 obtain ⟨v1,v2,v4,v5,rfl,r1,r2,hN,hS,hO,hI⟩:=h
 obtain ⟨a1,k1,rfl,g1,g2,g3,g4⟩:=hN
 obtain ⟨a,k,rfl,m1,m2,m3,m4⟩:=hV
 have hr':=inR_le hr
 unfold maxLen at g2 m2
 clear hr
 have hp0:=hp
 unfold I64 at hp
 obtain ⟨W0,hW0,hbx,hx0,hz⟩:=box_facts w [.int .i64 b.roots,.slice a1 b.nodes.length k1,v2,.int .i64 b.edges,v4,v5] 44
 have p0:=(hbx 0 _ rfl).1
 have p1:=(hbx 1 _ rfl).1
 clear hz hbx
 by_cases hn:p<0
 ·have HU:=Lib.hid (underB_neg2 (sig:=sig) (b:=b) (below:=below) hn hp0)
  go_enter Tryz.func207,Tryz.ntmps207
  go_wp2_with (go_at_call 106;refine (c_spec_l1In _ _ _ _).mono ?_;rintro e y ⟨rfl,rfl⟩)
  go_ret
  exact ⟨ret_bool HU.out,hx0⟩
 ·have HU:=Lib.hid (underB_pos (sig:=sig) (b:=b) (below:=below) hn)
  by_cases hlt:p<below
  ·obtain ⟨n,rfl⟩:=Int.eq_ofNat_of_zero_le (show 0≤p by omega)
   have hnl:n<b.nodes.length:=by omega
   obtain ⟨c1,c2⟩:=hc n hnl hlt
   rcases g4 with g4|⟨b1,o1,rfl,gb1,gb2,g4⟩
   ·rw [g4] at hnl;simp at hnl
   obtain ⟨cs,hl,⟨nv,rfl,e1,e2,e3⟩,hcs⟩:=g4 n hnl
   have q0:=hx0.keep (hcs 0 _ rfl)
   rw [Nat.add_zero] at q0
   obtain ⟨m,hm⟩:=Int.eq_ofNat_of_zero_le c1
   have hml:m<sig.length:=by omega
   rcases m4 with m4|⟨b2,o2,rfl,mb1,mb2,m4⟩
   ·rw [m4] at hml;simp at hml
   obtain ⟨ds,dl,⟨rfl,d1,d2,d3⟩,hds⟩:=m4 m hml
   have s2:=hx0.keep (hds 2 _ rfl)
   have HK:=Lib.hid (show sgAt sig (ndAt b (n:Int)).control=sig[m] by rw [ndAt_nat b n hnl,hm,sgAt_nat sig m hml])
   rw [hm] at q0
   clear hm hcs hds g4 m4 c1 c2 hc
   have dd:decide ((n:Int)<below)=true:=decide_eq_true hlt
   go_enter Tryz.func207,Tryz.ntmps207
   go_wp2
   go_ret
   exact ⟨ret_bool (by rw [HU.out,HK.out,dd];by_cases hh:sig[m].kind=2 <;> simp [hh]),hx0⟩
  ·have dd:decide (p<below)=false:=decide_eq_false hlt
   go_enter Tryz.func207,Tryz.ntmps207
   go_wp2
   go_ret
   exact ⟨ret_bool (by rw [HU.out,dd];rfl),hx0⟩
theorem c_impl_IsBigraph_1 (lo hi B:Nat) (cs:List Value) (b:Big) (l:Int) (w:World) (h:BigP lo hi w cs b) (he:inR b.edges 0 8=true) (ho:b.outer.length≤1000) (hbx:∀j u,cs[j]? = some u→w.cell? ⟨B,j,none⟩=some u) :
 Calls Tryz.prog 181 #[.int .i64 l,.pointer (some ⟨B,0,none⟩)] w fun e w'=>e=.returned (.bool (!(linkB b l)))∧Ext w w':=by
 have hB:=h
 obtain ⟨v1,v2,v4,v5,rfl,r1,r2,hN,hS,hO,hI⟩:=h
 have p0:=hbx 0 _ rfl
 have p1:=hbx 1 _ rfl
 have p2:=hbx 2 _ rfl
 have p3:=hbx 3 _ rfl
 have p4:=hbx 4 _ rfl
 have p5:=hbx 5 _ rfl
 clear hbx
 go_enter Tryz.func181,Tryz.ntmps181
 go_wp2_with (go_at_call 182;refine (c_impl_Bigraph_isLink lo hi [.int .i64 b.roots,v1,v2,.int .i64 b.edges,v4,v5] b l _ hB he ho).mono ?_;rintro e y ⟨rfl,hb⟩)
 go_ret
 exact ⟨rfl,hb⟩
theorem c_impl_IsBigraph_2 (lo hi lo' hi' B B2:Nat) (v:Value) (sig:List Ctl) (cs:List Value) (b:Big) (p:Int) (w:World) (hV:CtlsV lo' hi' w v sig) (h:BigP lo hi w cs b) (hp:I64 p) (hr:inR b.roots 0 4=true) (hc:CtlIn sig b b.nodes.length) (hbx:∀j u,cs[j]? = some u→w.cell? ⟨B,j,none⟩=some u) (hbs:w.cell? ⟨B2,0,none⟩=some v) :
 Calls Tryz.prog 183 #[.int .i64 p,.pointer (some ⟨B,0,none⟩),.pointer (some ⟨B2,0,none⟩)] w fun e w'=>e=.returned (.bool (!(underB sig b p b.nodes.length)))∧Ext w w':=by
 have hB:=h
 have hV':=hV
 obtain ⟨a,k,rfl,m1,m2,m3,m4⟩:=hV
 obtain ⟨v1,v2,v4,v5,rfl,r1,r2,hN,hS,hO,hI⟩:=h
 obtain ⟨a1,k1,rfl,g1,g2,g3,g4⟩:=hN
 have p0:=hbx 0 _ rfl
 have p1:=hbx 1 _ rfl
 have p2:=hbx 2 _ rfl
 have p3:=hbx 3 _ rfl
 have p4:=hbx 4 _ rfl
 have p5:=hbx 5 _ rfl
 unfold maxLen at g2
 clear hbx g4 m4
 go_enter Tryz.func183,Tryz.ntmps183
 go_wp2_with (go_at_call 180;refine (c_impl_Bigraph_isParent lo' hi' lo hi _ sig [.int .i64 b.roots,.slice a1 b.nodes.length k1,v2,.int .i64 b.edges,v4,v5] b p _ _ hV' hB hp hr (by omega) hc).mono ?_;rintro e y ⟨rfl,hb⟩)
 go_ret
 exact ⟨rfl,hb⟩
theorem c_impl_IsBigraph_3 (lo hi B:Nat) (cs:List Value) (b:Big) (ds:List Value) (x:Wr) (w:World) (h:BigP lo hi w cs b) (he:inR b.edges 0 8=true) (ho:b.outer.length≤1000) (hbx:∀j u,cs[j]? = some u→w.cell? ⟨B,j,none⟩=some u) (hx:WrP lo hi w ds x) :
 Calls Tryz.prog 185 #[.agg ds.toArray,.pointer (some ⟨B,0,none⟩)] w fun e w'=>e=.returned (.bool (!(linkB b x.link)))∧Ext w w':=by
 have hB:=h
 obtain ⟨v1,v2,v4,v5,rfl,r1,r2,hN,hS,hO,hI⟩:=h
 obtain ⟨rfl,e1,e2⟩:=hx
 obtain ⟨W0,hW0,hbx0,hx0,hz⟩:=box_facts w [.string x.name,.int .i64 x.link] 172
 have p0:=hx0.keep (hbx 0 _ rfl)
 have p1:=hx0.keep (hbx 1 _ rfl)
 have p2:=hx0.keep (hbx 2 _ rfl)
 have p3:=hx0.keep (hbx 3 _ rfl)
 have p4:=hx0.keep (hbx 4 _ rfl)
 have p5:=hx0.keep (hbx 5 _ rfl)
 have s1:=(hbx0 1 _ rfl).1
 replace hB:=BigP.keeps _ _ _ _ _ _ (Same.ext hx0) hB
 clear hbx hbx0 hz
 go_enter Tryz.func185,Tryz.ntmps185
 go_wp2_with (go_at_call 182;refine (c_impl_Bigraph_isLink lo hi [.int .i64 b.roots,v1,v2,.int .i64 b.edges,v4,v5] b x.link _ hB he ho).mono ?_;rintro e y ⟨rfl,hb⟩)
 go_ret
 exact ⟨rfl,hx0.trans hb⟩
end Go.Proofs.YtccjepndhlobpaaGreatDoor

/-
  Plain: bigraphs are valid.
-/
namespace Go.Proofs.YtccjepndhlobpaaGreatDoor
open Go.RowKit
set_option linter.unusedVariables false
set_option linter.unusedSimpArgs false

def nodeOk (sig:List Ctl) (b:Big) (i:Nat):Bool:=match b.nodes[i]? with
 | none=>true
 | some n=>inR n.control 0 ((sig.length:Int) - 1) && (underB sig b n.parent i && (decide ((n.links.length:Int)=(sgAt sig n.control).ports) && n.links.all (linkB b)))
def headB (sig:List Ctl) (b:Big):Bool:=sigB sig && (inR b.roots 0 4 && (decide (b.nodes.length≤8) && (decide (b.sites.length≤4) && (inR b.edges 0 8 && (namesB b.outer && namesB (b.inner.map Wr.name))))))
def siteOk (sig:List Ctl) (b:Big) (p:Int):Bool:=underB sig b p b.nodes.length
def wireOk (b:Big) (x:Wr):Bool:=linkB b x.link
/-- A bigraph is valid. -/
def bigB (sig:List Ctl) (b:Big):Bool:=headB sig b && ((List.range b.nodes.length).all (nodeOk sig b) && (b.sites.all (siteOk sig b) && b.inner.all (wireOk b)))
theorem nodeOk_at (sig:List Ctl) (b:Big) (i:Nat) (h:i<b.nodes.length):nodeOk sig b i=(inR (b.nodes[i]).control 0 ((sig.length:Int) - 1) && (underB sig b (b.nodes[i]).parent i && (decide (((b.nodes[i]).links.length:Int)=(sgAt sig (b.nodes[i]).control).ports) && !((b.nodes[i]).links.any (fun l=>!(linkB b l)))))):=by
 unfold nodeOk;rw [List.getElem?_eq_getElem h,any_not,Bool.not_not]
theorem CtlIn_of {sig:List Ctl} {b:Big} {n:Nat} (h:(List.range n).all (nodeOk sig b)=true):CtlIn sig b n:=by
 intro i hi hn
 have:=List.all_eq_true.1 h i (List.mem_range.2 (by omega))
 rw [nodeOk_at sig b i hi] at this
 have:=inR_le (Bool.and_eq_true_iff.1 this).1
 omega
theorem namesB_len {l:List ByteArray} (h:namesB l=true):l.length≤16:=by
 unfold namesB at h
 have:=(Bool.and_eq_true_iff.1 h).2
 simp at this;omega
theorem headB_parts {sig:List Ctl} {b:Big} (h:headB sig b=true):sigB sig=true∧inR b.roots 0 4=true∧b.nodes.length≤8∧b.sites.length≤4∧inR b.edges 0 8=true∧namesB b.outer=true∧namesB (b.inner.map Wr.name)=true:=by
 unfold headB at h
 simp only [Bool.and_eq_true,decide_eq_true_eq] at h
 obtain ⟨a,b,c,d,e,f,g⟩:=h
 exact ⟨a,b,c,d,e,f,g⟩
theorem bigB_parts {sig:List Ctl} {b:Big} (h:bigB sig b=true):headB sig b=true∧(List.range b.nodes.length).all (nodeOk sig b)=true∧b.sites.all (siteOk sig b)=true∧b.inner.all (wireOk b)=true:=by
 unfold bigB at h
 simp only [Bool.and_eq_true] at h
 exact h
theorem bigB_nohead {sig:List Ctl} {b:Big} (h:headB sig b=false):bigB sig b=false:=by unfold bigB;rw [h];rfl
theorem bigB_nonode {sig:List Ctl} {b:Big} (i:Nat) (hi:i<b.nodes.length) (h:nodeOk sig b i=false):bigB sig b=false:=by unfold bigB;rw [range_all_bad _ _ i hi h];simp
theorem inv_not {x y:Bool} (h:x = !y):y = !x:=by cases x <;> cases y <;> simp_all
theorem site_any (sig:List Ctl) (b:Big):b.sites.any (fun p=>!(underB sig b p b.nodes.length)) = !(b.sites.all (siteOk sig b)):=any_not (siteOk sig b) b.sites
theorem wire_any (b:Big):b.inner.any (fun x=>!(linkB b x.link)) = !(b.inner.all (wireOk b)):=any_not (wireOk b) b.inner
end Go.Proofs.YtccjepndhlobpaaGreatDoor
