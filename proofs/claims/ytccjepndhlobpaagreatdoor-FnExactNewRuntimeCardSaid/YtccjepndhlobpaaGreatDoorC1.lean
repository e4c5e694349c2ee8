/-
  Plain facts and facts on memory that the walks lean on.
-/
import Derived.Test.YtccjepndhlobpaaGreatDoorC0
import Derived.Test.YtccjepndhlobpaaGreatDoorB0
/-
  Walks: sortings.
-/
namespace Go.Proofs.YtccjepndhlobpaaGreatDoor
open Go.RowKit
set_option linter.unusedVariables false
set_option linter.unusedSimpArgs false

/-- A struct that is boxed: its cells. -/
theorem box_facts (w:World) (cs:List Value) (T:TypeId):∃W0,w.alloc (.cells cs.toArray T)=W0∧BoxAt W0 w.heap.size cs∧Ext w W0∧W0.heap.size=w.heap.size+1:=
 ⟨_,rfl,BoxAt.new w T cs _ rfl,Ext.alloc (Ext.refl w) _,by simp⟩
theorem any_not {α:Type} (p:α→Bool) (l:List α):l.any (fun x=>!(p x)) = !(l.all p):=by
 induction l with
 | nil=>rfl
 | cons x l ih=>simp only [List.any_cons,List.all_cons,ih];cases p x <;> simp
theorem all_and (n:Nat) (f g:Nat→Bool):(List.range n).all (fun i=>f i && g i)=((List.range n).all f && (List.range n).all g):=by
 induction n with
 | zero=>rfl
 | succ n ih=>rw [range_all_succ,range_all_succ,range_all_succ,ih];cases (List.range n).all f <;> cases (List.range n).all g <;> cases f n <;> cases g n <;> rfl
def mostOk (x:Int):Bool:=inR x 0 24
theorem most_any (l:List Int):l.any (fun x=>!(inR x 0 24)) = !(l.all mostOk):=any_not mostOk l
/-- A sorting is valid. -/
def sortB (sig:List Ctl) (s:Srt):Bool:=sigB sig && (riseB 0 ((sig.length:Int) - 1) s.tops && (nestB sig s.nest && (sortsB sig s.sorts (s.most.length:Int) && (inR (s.most.length:Int) 1 4 && (s.most.all mostOk && pairsB (s.most.length:Int) s.apart)))))
def bothOk (sig:List Ctl) (s:Srt) (i:Nat):Bool:=nestOk sig s.nest i && sortsOk sig s.sorts (s.most.length:Int) i
theorem sortB_both (sig:List Ctl) (s:Srt) (h1:s.nest.length=sig.length) (h2:s.sorts.length=sig.length):(nestB sig s.nest && sortsB sig s.sorts (s.most.length:Int))=(List.range sig.length).all (bothOk sig s):=by
 show _=(List.range sig.length).all (fun i=>nestOk sig s.nest i && sortsOk sig s.sorts (s.most.length:Int) i)
 rw [all_and]
 unfold nestB sortsB
 rw [h1,h2];simp
theorem inR_le {n a b:Int} (h:inR n a b=true):a≤n∧n≤b:=by unfold inR at h;simpa using h
theorem sigB_len {l:List Ctl} (h:sigB l=true):1≤l.length∧l.length≤6:=by
 unfold sigB at h
 have:=inR_le (Bool.and_eq_true_iff.1 h).1
 omega
theorem sortB_no {sig:List Ctl} {s:Srt} (h:sigB sig=false∨riseB 0 ((sig.length:Int) - 1) s.tops=false∨¬(s.nest.length:Int)=(sig.length:Int)∨¬(s.sorts.length:Int)=(sig.length:Int)∨inR (s.most.length:Int) 1 4=false∨s.most.all mostOk=false∨pairsB (s.most.length:Int) s.apart=false):sortB sig s=false:=by
 unfold sortB
 rcases h with h|h|h|h|h|h|h
 ·rw [h];rfl
 ·rw [h];simp
 ·have:nestB sig s.nest=false:=by unfold nestB;simp;intro hh;omega
  rw [this];simp
 ·have:sortsB sig s.sorts (s.most.length:Int)=false:=by unfold sortsB;simp;intro hh;omega
  rw [this];simp
 ·rw [h];simp
 ·rw [h];simp
 ·rw [h];simp
attribute [local irreducible] inR nameB riseB sigB nestB sortsB pairsB mostOk
theorem sortB_bad (sig:List Ctl) (s:Srt) (h1:(s.nest.length:Int)=(sig.length:Int)) (h2:(s.sorts.length:Int)=(sig.length:Int)) (i:Nat) (hi:i<sig.length) (h:bothOk sig s i=false):sortB sig s=false:=by
 have:=sortB_both sig s (by omega) (by omega)
 rw [range_all_bad _ _ i hi h] at this
 unfold sortB
 rcases Bool.and_eq_false_iff.1 this with h|h <;> rw [h] <;> simp
theorem sortB_good {sig:List Ctl} {s:Srt} (h1:(s.nest.length:Int)=(sig.length:Int)) (h2:(s.sorts.length:Int)=(sig.length:Int)) (a:sigB sig=true) (b:riseB 0 ((sig.length:Int) - 1) s.tops=true) (c:inR (s.most.length:Int) 1 4=true) (d:s.most.all mostOk=true) (e:pairsB (s.most.length:Int) s.apart=true) (h:(List.range sig.length).all (bothOk sig s)=true):sortB sig s=true:=by
 have:=sortB_both sig s (by omega) (by omega)
 rw [h,Bool.and_eq_true_iff] at this
 unfold sortB
 rw [this.1,this.2,a,b,c,d,e];rfl
theorem bothOk_at (sig:List Ctl) (s:Srt) (i:Nat) (h1:i<sig.length) (h2:i<s.nest.length) (h3:i<s.sorts.length):bothOk sig s i=((riseB 0 ((sig.length:Int) - 1) s.nest[i] && !(decide (sig[i].kind=2) && decide (0<(s.nest[i]).length))) && (decide (((s.sorts[i]).length:Int)=sig[i].ports) && !(s.sorts[i].any (fun x=>!(inR x 0 ((s.most.length:Int) - 1)))))):=by
 unfold bothOk;rw [nestOk_at sig s.nest i h1 h2,sortsOk_at sig s.sorts _ i h1 h3,any_not,Bool.not_not]
set_option maxRecDepth 100000 in
set_option maxHeartbeats 6400000 in
theorem c_impl_IsSorting (lo hi lo' hi':Nat) (v:Value) (sig:List Ctl) (cs:List Value) (s:Srt) (w:World) (h:CtlsV lo hi w v sig) (hs:SrtP lo' hi' w cs s) :
 Calls Tryz.prog 53 #[v,.agg cs.toArray] w fun e w'=>e=.returned (.bool (sortB sig s))∧Ext w w':=by
 have hV:=h
 obtain ⟨a,k,rfl,g1,g2,g3,g4⟩:=h
 obtain ⟨v0,v1,v2,v3,v4,rfl,hT,hN,hS,hM,hA⟩:=hs
 have hNV:=hN
 have hSV:=hS
 have hMV:=hM
 obtain ⟨a1,k1,rfl,m1,m2,m3,m4⟩:=hN
 obtain ⟨a2,k2,rfl,n1,n2,n3,n4⟩:=hS
 obtain ⟨a3,k3,rfl,o1,o2,o3,o4⟩:=hM
 unfold maxLen at g2 m2 n2 o2
 obtain ⟨W0,hW0,hbx,hx0,hz0⟩:=box_facts w [v0,.slice a1 s.nest.length k1,.slice a2 s.sorts.length k2,.slice a3 s.most.length k3,v4] 39
 have p0:=(hbx 0 _ rfl).1
 have p1:=(hbx 1 _ rfl).1
 have p2:=(hbx 2 _ rfl).1
 have p3:=(hbx 3 _ rfl).1
 have p4:=(hbx 4 _ rfl).1
 have HZ:=Lib.hid hz0
 clear hz0
 replace hV:=hV.ext CtlP.keeps hx0
 replace hT:=hT.ext IntP.keeps hx0
 replace hNV:=hNV.ext RowP.keeps hx0
 replace hSV:=hSV.ext RowP.keeps hx0
 replace hMV:=hMV.ext IntP.keeps hx0
 replace hA:=hA.ext PairP.keeps hx0
 have eg1:∀args w,(callFunc 112 args).run Tryz.prog w=.ok (.enter 112 args) w:=enters_of Tryz.func112 (by kernel_rfl) rfl
 go_enter Tryz.func53,Tryz.ntmps53
 have Hb:=Lib.hid trivial
 have Hc:=Lib.hid trivial
 have Hd:=Lib.hid trivial
 cases ha:sigB sig
 have Ha:=Lib.hid ha;clear ha
 have isF:=trivial
 rotate_left
 have Ha:=Lib.hid ha;clear ha
 have hsl:=sigB_len Ha.out
 cases hb:riseB 0 ((sig.length:Int) - 1) s.tops
 have Hb:=Lib.hid hb;clear hb
 have isF:=trivial
 rotate_left
 have Hb:=Lib.hid hb;clear hb
 by_cases hc:((s.nest.length:Int))=((sig.length:Int))
 have ec:(((s.nest.length:Int)) != ((sig.length:Int)))=false:=bne_eq_false_iff_eq.2 hc
 have Hc:=Lib.hid hc;clear hc
 by_cases hd:((s.sorts.length:Int))=((sig.length:Int))
 have ed:(((s.sorts.length:Int)) != ((sig.length:Int)))=false:=bne_eq_false_iff_eq.2 hd
 have Hd:=Lib.hid hd;clear hd
 rotate_left
 have ed:(((s.sorts.length:Int)) != ((sig.length:Int)))=true:=bne_iff_ne.2 hd
 have Hd:=Lib.hid hd;clear hd
 have isF:=trivial
 rotate_left
 have ec:(((s.nest.length:Int)) != ((sig.length:Int)))=true:=bne_iff_ne.2 hc
 have Hc:=Lib.hid hc;clear hc
 have isF:=trivial
 all_goals go_wp2_with (first|(go_at_call 110;(refine (c_impl_isRising lo' hi' _ _ _ _ hT (by omega) (by omega)).mono ?_);rintro e y ⟨rfl,hb⟩;rw [Hb.out];replace p0:=Ext.keep hb p0;replace p1:=Ext.keep hb p1;replace p2:=Ext.keep hb p2;replace p3:=Ext.keep hb p3;replace p4:=Ext.keep hb p4;replace hV:=hV.ext CtlP.keeps hb;replace hT:=hT.ext IntP.keeps hb;replace hNV:=hNV.ext RowP.keeps hb;replace hSV:=hSV.ext RowP.keeps hb;replace hMV:=hMV.ext IntP.keeps hb;replace hA:=hA.ext PairP.keeps hb)|(go_at_call 109;(refine (c_impl_IsSignature lo hi _ _ _ hV).mono ?_);rintro e y ⟨rfl,hb⟩;rw [Ha.out];replace p0:=Ext.keep hb p0;replace p1:=Ext.keep hb p1;replace p2:=Ext.keep hb p2;replace p3:=Ext.keep hb p3;replace p4:=Ext.keep hb p4;replace hV:=hV.ext CtlP.keeps hb;replace hT:=hT.ext IntP.keeps hb;replace hNV:=hNV.ext RowP.keeps hb;replace hSV:=hSV.ext RowP.keeps hb;replace hMV:=hMV.ext IntP.keeps hb;replace hA:=hA.ext PairP.keeps hb))
 all_goals first|(have:=isF;go_ret;exact ⟨ret_bool (sortB_no (by simp [Ha.out,Hb.out,Hc.out,Hd.out])).symm,xw⟩)|skip
 have HMO:=Lib.hid (most_any s.most)
 have Hn:=Lib.hid trivial
 have Ho:=Lib.hid trivial
 cases hm:inR (s.most.length:Int) 1 4
 have Hm:=Lib.hid hm;clear hm
 have isF:=trivial
 rotate_left
 have Hm:=Lib.hid hm;clear hm
 have hml:=inR_le Hm.out
 cases hn:s.most.any (fun x=>!(inR x 0 24))
 have Hn:=Lib.hid hn;clear hn
 cases ho:pairsB (s.most.length:Int) s.apart
 have Ho:=Lib.hid ho;clear ho
 have isF:=trivial
 rotate_left
 have Ho:=Lib.hid ho;clear ho
 rotate_left
 have Hn:=Lib.hid hn;clear hn
 have isF:=trivial
 all_goals go_wp2_with (first|(go_at_call 113;(refine (c_impl_arePairs lo' hi' _ _ _ _ hA (by omega) (by omega)).mono ?_);rintro e y ⟨rfl,hb⟩;rw [Ho.out];replace p0:=Ext.keep hb p0;replace p1:=Ext.keep hb p1;replace p2:=Ext.keep hb p2;replace p3:=Ext.keep hb p3;replace p4:=Ext.keep hb p4;replace hV:=hV.ext CtlP.keeps hb;replace hT:=hT.ext IntP.keeps hb;replace hNV:=hNV.ext RowP.keeps hb;replace hSV:=hSV.ext RowP.keeps hb;replace hMV:=hMV.ext IntP.keeps hb;replace hA:=hA.ext PairP.keeps hb)|(go_at_call 111;(refine (c_slices_ContainsFunc_int_int lo' hi' (fun x=>!(inR x 0 24)) 112 #[] _ _ _ hMV eg1 (fun i hi cs W hW hP=>c_impl_IsSorting_1 _ W)).mono ?_);rintro e y ⟨rfl,hb⟩;rw [Hn.out];replace p0:=Ext.keep hb p0;replace p1:=Ext.keep hb p1;replace p2:=Ext.keep hb p2;replace p3:=Ext.keep hb p3;replace p4:=Ext.keep hb p4;replace hV:=hV.ext CtlP.keeps hb;replace hT:=hT.ext IntP.keeps hb;replace hNV:=hNV.ext RowP.keeps hb;replace hSV:=hSV.ext RowP.keeps hb;replace hMV:=hMV.ext IntP.keeps hb;replace hA:=hA.ext PairP.keeps hb)|(go_at_call 55;(refine (c_impl_within _ _ _ _).mono ?_);rintro e y ⟨rfl,rfl⟩;rw [Hm.out]))
 all_goals first|(have:=isF;go_ret;exact ⟨ret_bool (sortB_no (by first|(simp [Hm.out,Hn.out,Ho.out];done)|(have:=HMO.out;rw [Hn.out] at this;simp at this;simp [this]))).symm,xw⟩)|skip
 clear eg1
 have eg2:∀args w,(callFunc 114 args).run Tryz.prog w=.ok (.enter 114 args) w:=enters_of Tryz.func114 (by kernel_rfl) rfl
 go_loopw [55] (fun c wr=>∃i:Nat,c=.int .i64 i∧i≤sig.length∧(List.range i).all (bothOk sig s)=true∧Ext y wr) (fun c _=>sig.length - (intOf c).toNat)
 case atStart=>exact ⟨0,rfl,Nat.zero_le _,rfl,Ext.refl _⟩
 case round=>
  obtain ⟨i,rfl,hi0,hok,hx⟩:=hrel
  have HOK:=Lib.hid hok
  clear hok
  by_cases hlt:i<sig.length
  ·have hX:Ext w wr:=xw
   have hlt2:i<s.nest.length:=by have:=Hc.out;omega
   have hlt3:i<s.sorts.length:=by have:=Hd.out;omega
   have hbad:=sortB_bad sig s Hc.out Hd.out i hlt
   have HA:=Lib.hid (bothOk_at sig s i hlt hlt2 hlt3)
   have HS:=Lib.hid (range_all_succ (bothOk sig s) i)
   rcases g4 with g4|⟨b,o,rfl,gb1,gb2,g4⟩
   ·subst g4;simp at hlt
   rcases m4 with m4|⟨b1,o1,rfl,mb1,mb2,m4⟩
   ·rw [m4] at hlt2;simp at hlt2
   rcases n4 with n4|⟨b2,o2,rfl,nb1,nb2,n4⟩
   ·rw [n4] at hlt3;simp at hlt3
   obtain ⟨cs,hl,⟨rfl,e1,e2,e3⟩,hc⟩:=g4 i hlt
   have q0:=hX.keep (hc 0 _ rfl)
   have q1:=hX.keep (hc 1 _ rfl)
   have q2:=hX.keep (hc 2 _ rfl)
   rw [Nat.add_zero] at q0
   obtain ⟨ds,hdl,⟨rv,rfl,hR⟩,hd⟩:=m4 i hlt2
   have hRV:=hR.ext IntP.keeps hX
   obtain ⟨ra,rk,rfl,r1,r2,r3,_⟩:=hR
   have r0:=hX.keep (hd 0 _ rfl)
   rw [Nat.mul_one,Nat.add_zero] at r0
   obtain ⟨es,hel,⟨tv,rfl,hQ⟩,he⟩:=n4 i hlt3
   have hQV:=hQ.ext IntP.keeps hX
   obtain ⟨ta,tk,rfl,t1,t2,t3,_⟩:=hQ
   have t0:=hX.keep (he 0 _ rfl)
   rw [Nat.mul_one,Nat.add_zero] at t0
   clear hc hd he g4 m4 n4
   replace p1:=hx.keep p1
   replace p2:=hx.keep p2
   replace p3:=hx.keep p3
   unfold maxLen at r2 t2
   unfold I64 at e2 e3
   have j0:(0:Int)≤(i:Int):=by omega
   have j1:(i:Int)<(s.nest.length:Int):=by omega
   have j2:(i:Int)<(s.sorts.length:Int):=by omega
   have Hf:=Lib.hid trivial
   have hg:True:=trivial
   have Hh:=Lib.hid trivial
   have Hk:=Lib.hid trivial
   cases he:riseB 0 ((sig.length:Int) - 1) s.nest[i]
   have He:=Lib.hid he;clear he
   have HB:=Lib.hid (hbad (by rw [HA.out];simp [He.out]))
   clear hbad
   have isF:=trivial
   rotate_left
   have He:=Lib.hid he;clear he
   by_cases hf:(sig[i].kind)=(2)
   have ef:((sig[i].kind) == (2))=true:=beq_iff_eq.2 hf
   have Hf:=Lib.hid hf;clear hf
   by_cases hg:0<(s.nest[i]).length
   have eg:decide (0<(s.nest[i]).length)=true:=decide_eq_true hg
   have HB:=Lib.hid (hbad (by rw [HA.out];simp [He.out,Hf.out,hg]))
   clear hbad
   have isF:=trivial
   rotate_left
   have eg:decide (0<(s.nest[i]).length)=false:=decide_eq_false hg
   by_cases hh:(((s.sorts[i]).length:Int))=(sig[i].ports)
   have eh:((((s.sorts[i]).length:Int)) != (sig[i].ports))=false:=bne_eq_false_iff_eq.2 hh
   have Hh:=Lib.hid hh;clear hh
   cases hk:s.sorts[i].any (fun x=>!(inR x 0 ((s.most.length:Int) - 1)))
   have Hk:=Lib.hid hk;clear hk
   have HG:=Lib.hid (show bothOk sig s i=true by rw [HA.out];simp [He.out,Hf.out,hg,Hh.out,Hk.out])
   clear hbad
   have isP:=trivial
   rotate_left
   have Hk:=Lib.hid hk;clear hk
   have HB:=Lib.hid (hbad (by rw [HA.out];simp [He.out,Hf.out,hg,Hh.out,Hk.out]))
   clear hbad
   have isF:=trivial
   rotate_left
   have eh:((((s.sorts[i]).length:Int)) != (sig[i].ports))=true:=bne_iff_ne.2 hh
   have Hh:=Lib.hid hh;clear hh
   have HB:=Lib.hid (hbad (by rw [HA.out];simp [He.out,Hf.out,hg,Hh.out]))
   clear hbad
   have isF:=trivial
   rotate_left
   have ef:((sig[i].kind) == (2))=false:=beq_eq_false_iff_ne.2 hf
   have Hf:=Lib.hid hf;clear hf
   by_cases hh:(((s.sorts[i]).length:Int))=(sig[i].ports)
   have eh:((((s.sorts[i]).length:Int)) != (sig[i].ports))=false:=bne_eq_false_iff_eq.2 hh
   have Hh:=Lib.hid hh;clear hh
   cases hk:s.sorts[i].any (fun x=>!(inR x 0 ((s.most.length:Int) - 1)))
   have Hk:=Lib.hid hk;clear hk
   have HG:=Lib.hid (show bothOk sig s i=true by rw [HA.out];simp [He.out,Hf.out,Hh.out,Hk.out])
   clear hbad
   have isP:=trivial
   rotate_left
   have Hk:=Lib.hid hk;clear hk
   have HB:=Lib.hid (hbad (by rw [HA.out];simp [He.out,Hf.out,Hh.out,Hk.out]))
   clear hbad
   have isF:=trivial
   rotate_left
   have eh:((((s.sorts[i]).length:Int)) != (sig[i].ports))=true:=bne_iff_ne.2 hh
   have Hh:=Lib.hid hh;clear hh
   have HB:=Lib.hid (hbad (by rw [HA.out];simp [He.out,Hf.out,Hh.out]))
   clear hbad
   have isF:=trivial
   all_goals go_wp2_with fail
   all_goals
    refine wp_region_held_drew (S:=(fun w'=>BoxAt w' wr.heap.size [.string sig[i].name,.int .i64 sig[i].ports,.int .i64 sig[i].kind]∧Ext wr w')) (by kernel_rfl) ?_ (fun hHeld=>?_)
    ·(refine ⟨?_,xw⟩;all_goals (intro j u hj;rcases j with _|_|_|_|_|_|_|_|j <;> simp at hj <;> (subst hj;simp)))
    refine tkP 0 ?_ ?_ ?_;rotate_left;focus (intro w;go_simp;try with_reducible rfl)
    try simp only [Act.put,aput]
    refine tkY 1 ?_ ?_ ?_;rotate_left;focus (intro w hSw;(try dsimp only at hSw);obtain ⟨bx0,sx⟩:=hSw;have c0_0:=(bx0 0 _ rfl).1;have c0_1:=(bx0 1 _ rfl).1;have c0_2:=(bx0 2 _ rfl).1;have s_p1:=Ext.keep sx p1;have s_p2:=Ext.keep sx p2;have s_p3:=Ext.keep sx p3;have s_r0:=Ext.keep sx r0;have s_t0:=Ext.keep sx t0;go_simp;try with_reducible rfl)
    try simp only [Act.put,aput]
    refine tkP 2 ?_ ?_ ?_;rotate_left;focus (intro w;go_simp;try with_reducible rfl)
    try simp only [Act.put,aput]
    refine tkP 3 ?_ ?_ ?_;rotate_left;focus (intro w;go_simp;try with_reducible rfl)
    try simp only [Act.put,aput]
    refine tkY 4 ?_ ?_ ?_;rotate_left;focus (intro w hSw;(try dsimp only at hSw);obtain ⟨bx0,sx⟩:=hSw;have c0_0:=(bx0 0 _ rfl).1;have c0_1:=(bx0 1 _ rfl).1;have c0_2:=(bx0 2 _ rfl).1;have s_p1:=Ext.keep sx p1;have s_p2:=Ext.keep sx p2;have s_p3:=Ext.keep sx p3;have s_r0:=Ext.keep sx r0;have s_t0:=Ext.keep sx t0;go_simp;try with_reducible rfl)
    try simp only [Act.put,aput]
    refine tkP 5 ?_ ?_ ?_;rotate_left;focus (intro w;go_simp;try with_reducible rfl)
    try simp only [Act.put,aput]
    refine tkP 6 ?_ ?_ ?_;rotate_left;focus (intro w;go_simp;try with_reducible rfl)
    try simp only [Act.put,aput]
    refine wpAnyH_ready (rs:=[7]) (by kernel_rfl) (by simp) ?_
    refine AllReadyH.cons rfl (fun K hK=>?_) AllReadyH.nil
    (try simp only [aput])
    go_simp
    (have hSw:=hHeld;(try dsimp only at hSw);obtain ⟨bx0,sx⟩:=hSw;have c0_0:=(bx0 0 _ rfl).1;have c0_1:=(bx0 1 _ rfl).1;have c0_2:=(bx0 2 _ rfl).1;have s_p1:=Ext.keep sx p1;have s_p2:=Ext.keep sx p2;have s_p3:=Ext.keep sx p3;have s_r0:=Ext.keep sx r0;have s_t0:=Ext.keep sx t0;have s_hRV:=hRV.ext IntP.keeps sx;have s_hQV:=hQV.ext IntP.keeps sx;go_at_call 110;(refine (c_impl_isRising lo' hi' _ _ _ _ s_hRV (by omega) (by omega)).mono ?_);rintro e y ⟨rfl,hb⟩;rw [He.out])
    show K _ _
    refine hK.out _ _ (by (have hh:=hHeld;(try dsimp only at hh);exact ⟨hh.1.ext hb,hh.2.trans hb⟩)) (fun hHeld=>?_)
    clear hK K
    try simp only [Act.put,aput]
    refine tkP 8 ?_ ?_ ?_;rotate_left;focus (intro w;go_simp;try with_reducible rfl)
    try simp only [Act.put,aput]
    refine tkP 9 ?_ ?_ ?_;rotate_left;focus (intro w;go_simp;try with_reducible rfl)
    try simp only [Act.put,aput]
    first|refine tkN 10 ?_|(refine tkP 10 ?_ ?_ ?_;rotate_left;focus (intro w;go_simp;try with_reducible rfl))
    try simp only [Act.put,aput]
    first|refine tkN 11 ?_|(refine tkY 11 ?_ ?_ ?_;rotate_left;focus (intro w hSw;(try dsimp only at hSw);obtain ⟨bx0,sx⟩:=hSw;have c0_0:=(bx0 0 _ rfl).1;have c0_1:=(bx0 1 _ rfl).1;have c0_2:=(bx0 2 _ rfl).1;have s_p1:=Ext.keep sx p1;have s_p2:=Ext.keep sx p2;have s_p3:=Ext.keep sx p3;have s_r0:=Ext.keep sx r0;have s_t0:=Ext.keep sx t0;go_simp;try with_reducible rfl))
    try simp only [Act.put,aput]
    first|refine tkN 12 ?_|(refine tkP 12 ?_ ?_ ?_;rotate_left;focus (intro w;go_simp;try with_reducible rfl))
    try simp only [Act.put,aput]
    first|refine tkN 13 ?_|(refine tkP 13 ?_ ?_ ?_;rotate_left;focus (intro w;go_simp;try with_reducible rfl))
    try simp only [Act.put,aput]
    first|refine tkN 14 ?_|(refine tkP 14 ?_ ?_ ?_;rotate_left;focus (intro w;go_simp;try with_reducible rfl))
    try simp only [Act.put,aput]
    first|refine tkN 15 ?_|(refine tkY 15 ?_ ?_ ?_;rotate_left;focus (intro w hSw;(try dsimp only at hSw);obtain ⟨bx0,sx⟩:=hSw;have c0_0:=(bx0 0 _ rfl).1;have c0_1:=(bx0 1 _ rfl).1;have c0_2:=(bx0 2 _ rfl).1;have s_p1:=Ext.keep sx p1;have s_p2:=Ext.keep sx p2;have s_p3:=Ext.keep sx p3;have s_r0:=Ext.keep sx r0;have s_t0:=Ext.keep sx t0;go_simp;try with_reducible rfl))
    try simp only [Act.put,aput]
    first|refine tkN 16 ?_|(refine tkP 16 ?_ ?_ ?_;rotate_left;focus (intro w;go_simp;try with_reducible rfl))
    try simp only [Act.put,aput]
    first|refine tkN 17 ?_|(refine tkP 17 ?_ ?_ ?_;rotate_left;focus (intro w;go_simp;try with_reducible rfl))
    try simp only [Act.put,aput]
    first|refine tkN 18 ?_|(refine tkY 18 ?_ ?_ ?_;rotate_left;focus (intro w hSw;(try dsimp only at hSw);obtain ⟨bx0,sx⟩:=hSw;have c0_0:=(bx0 0 _ rfl).1;have c0_1:=(bx0 1 _ rfl).1;have c0_2:=(bx0 2 _ rfl).1;have s_p1:=Ext.keep sx p1;have s_p2:=Ext.keep sx p2;have s_p3:=Ext.keep sx p3;have s_r0:=Ext.keep sx r0;have s_t0:=Ext.keep sx t0;go_simp;try with_reducible rfl))
    try simp only [Act.put,aput]
    first|refine tkN 19 ?_|(refine tkP 19 ?_ ?_ ?_;rotate_left;focus (intro w;go_simp;try with_reducible rfl))
    try simp only [Act.put,aput]
    first|refine tkN 20 ?_|(refine tkP 20 ?_ ?_ ?_;rotate_left;focus (intro w;go_simp;try with_reducible rfl))
    try simp only [Act.put,aput]
    first|refine tkN 21 ?_|(refine tkP 21 ?_ ?_ ?_;rotate_left;focus (intro w;go_simp;try with_reducible rfl))
    try simp only [Act.put,aput]
    refine tkP 22 ?_ ?_ ?_;rotate_left;focus (intro w;go_simp;try with_reducible rfl)
    try simp only [Act.put,aput]
    refine tkP 23 ?_ ?_ ?_;rotate_left;focus (intro w;go_simp;try with_reducible rfl)
    try simp only [Act.put,aput]
    first|refine tkN 24 ?_|(refine tkP 24 ?_ ?_ ?_;rotate_left;focus (intro w;go_simp;try with_reducible rfl))
    try simp only [Act.put,aput]
    first|refine tkN 25 ?_|(refine tkY 25 ?_ ?_ ?_;rotate_left;focus (intro w hSw;(try dsimp only at hSw);obtain ⟨bx0,sx⟩:=hSw;have c0_0:=(bx0 0 _ rfl).1;have c0_1:=(bx0 1 _ rfl).1;have c0_2:=(bx0 2 _ rfl).1;have s_p1:=Ext.keep sx p1;have s_p2:=Ext.keep sx p2;have s_p3:=Ext.keep sx p3;have s_r0:=Ext.keep sx r0;have s_t0:=Ext.keep sx t0;go_simp;try with_reducible rfl))
    try simp only [Act.put,aput]
    first|refine tkN 26 ?_|(refine tkP 26 ?_ ?_ ?_;rotate_left;focus (intro w;go_simp;try with_reducible rfl))
    try simp only [Act.put,aput]
    first|refine tkN 27 ?_|(refine tkP 27 ?_ ?_ ?_;rotate_left;focus (intro w;go_simp;try with_reducible rfl))
    try simp only [Act.put,aput]
    first|refine tkN 28 ?_|(refine tkY 28 ?_ ?_ ?_;rotate_left;focus (intro w hSw;(try dsimp only at hSw);obtain ⟨bx0,sx⟩:=hSw;have c0_0:=(bx0 0 _ rfl).1;have c0_1:=(bx0 1 _ rfl).1;have c0_2:=(bx0 2 _ rfl).1;have s_p1:=Ext.keep sx p1;have s_p2:=Ext.keep sx p2;have s_p3:=Ext.keep sx p3;have s_r0:=Ext.keep sx r0;have s_t0:=Ext.keep sx t0;go_simp;try with_reducible rfl))
    try simp only [Act.put,aput]
    first|refine tkN 29 ?_|(refine tkP 29 ?_ ?_ ?_;rotate_left;focus (intro w;go_simp;try with_reducible rfl))
    try simp only [Act.put,aput]
    first|refine tkN 30 ?_|(refine tkP 30 ?_ ?_ ?_;rotate_left;focus (intro w;go_simp;try with_reducible rfl))
    try simp only [Act.put,aput]
    first|refine tkN 31 ?_|(refine tkY 31 ?_ ?_ ?_;rotate_left;focus (intro w hSw;(try dsimp only at hSw);obtain ⟨bx0,sx⟩:=hSw;have c0_0:=(bx0 0 _ rfl).1;have c0_1:=(bx0 1 _ rfl).1;have c0_2:=(bx0 2 _ rfl).1;have s_p1:=Ext.keep sx p1;have s_p2:=Ext.keep sx p2;have s_p3:=Ext.keep sx p3;have s_r0:=Ext.keep sx r0;have s_t0:=Ext.keep sx t0;go_simp;try with_reducible rfl))
    try simp only [Act.put,aput]
    first|refine tkN 32 ?_|(refine tkP 32 ?_ ?_ ?_;rotate_left;focus (intro w;go_simp;try with_reducible rfl))
    try simp only [Act.put,aput]
    refine tkP 33 ?_ ?_ ?_;rotate_left;focus (intro w;go_simp;try with_reducible rfl)
    try simp only [Act.put,aput]
    refine tkP 34 ?_ ?_ ?_;rotate_left;focus (intro w;go_simp;try with_reducible rfl)
    try simp only [Act.put,aput]
    first|refine tkN 35 ?_|(refine tkP 35 ?_ ?_ ?_;rotate_left;focus (intro w;go_simp;try with_reducible rfl))
    try simp only [Act.put,aput]
    first|refine tkN 36 ?_|(refine tkY 36 ?_ ?_ ?_;rotate_left;focus (intro w hSw;(try dsimp only at hSw);obtain ⟨bx0,sx⟩:=hSw;have c0_0:=(bx0 0 _ rfl).1;have c0_1:=(bx0 1 _ rfl).1;have c0_2:=(bx0 2 _ rfl).1;have s_p1:=Ext.keep sx p1;have s_p2:=Ext.keep sx p2;have s_p3:=Ext.keep sx p3;have s_r0:=Ext.keep sx r0;have s_t0:=Ext.keep sx t0;go_simp;try with_reducible rfl))
    try simp only [Act.put,aput]
    first|refine tkN 37 ?_|(refine tkP 37 ?_ ?_ ?_;rotate_left;focus (intro w;go_simp;try with_reducible rfl))
    try simp only [Act.put,aput]
    first|refine tkN 38 ?_|(refine tkP 38 ?_ ?_ ?_;rotate_left;focus (intro w;go_simp;try with_reducible rfl))
    try simp only [Act.put,aput]
    first|refine tkN 39 ?_|(refine tkY 39 ?_ ?_ ?_;rotate_left;focus (intro w hSw;(try dsimp only at hSw);obtain ⟨bx0,sx⟩:=hSw;have c0_0:=(bx0 0 _ rfl).1;have c0_1:=(bx0 1 _ rfl).1;have c0_2:=(bx0 2 _ rfl).1;have s_p1:=Ext.keep sx p1;have s_p2:=Ext.keep sx p2;have s_p3:=Ext.keep sx p3;have s_r0:=Ext.keep sx r0;have s_t0:=Ext.keep sx t0;go_simp;try with_reducible rfl))
    try simp only [Act.put,aput]
    first|refine tkN 40 ?_|(refine tkP 40 ?_ ?_ ?_;rotate_left;focus (intro w;go_simp;try with_reducible rfl))
    try simp only [Act.put,aput]
    first|refine tkN 41 ?_|(refine wpAnyH_ready (rs:=[41]) (by kernel_rfl) (by simp) ?_;refine AllReadyH.cons rfl (fun K hK=>?_) AllReadyH.nil;(try simp only [aput]);go_simp;(have hSw:=hHeld;(try dsimp only at hSw);obtain ⟨bx0,sx⟩:=hSw;have c0_0:=(bx0 0 _ rfl).1;have c0_1:=(bx0 1 _ rfl).1;have c0_2:=(bx0 2 _ rfl).1;have s_p1:=Ext.keep sx p1;have s_p2:=Ext.keep sx p2;have s_p3:=Ext.keep sx p3;have s_r0:=Ext.keep sx r0;have s_t0:=Ext.keep sx t0;have s_hRV:=hRV.ext IntP.keeps sx;have s_hQV:=hQV.ext IntP.keeps sx;go_at_call 111;(refine (c_slices_ContainsFunc_int_int lo' hi' (fun x=>!(inR x 0 ((s.most.length:Int) - 1))) 114 #[.pointer (some ⟨w.heap.size,0,none⟩)] _ _ _ s_hQV eg2 (fun i hi cs W hW hP=>c_impl_IsSorting_2 _ _ _ _ _ W (by omega) (hW.keep s_p3))).mono ?_);rintro e y ⟨rfl,hb⟩;rw [Hk.out]);show K _ _;refine hK.out _ _ (by (have hh:=hHeld;(try dsimp only at hh);exact ⟨hh.1.ext hb,hh.2.trans hb⟩)) (fun hHeld=>?_);clear hK K)
    try simp only [Act.put,aput]
    refine tkP 42 ?_ ?_ ?_;rotate_left;focus (intro w;go_simp;try with_reducible rfl)
    try simp only [Act.put,aput]
    refine wpAnyH_done (by kernel_rfl) ?_ _
   all_goals go_wp2
   all_goals first|(have:=isF;all_goals go_ret;all_goals exact ⟨ret_bool HB.out.symm,xw⟩)|(have:=isP;all_goals go_roundw;(case rel=>exact ⟨i+1,rfl,by omega,by rw [HS.out,HOK.out,HG.out];rfl,xw⟩);all_goals (simp only [intOf];omega))
  ·have e:i=sig.length:=by omega
   subst e
   go_wp2
   go_ret
   exact ⟨ret_bool (sortB_good Hc.out Hd.out Ha.out Hb.out Hm.out (by have:=HMO.out;rw [Hn.out] at this;simpa using this) Ho.out HOK.out).symm,xw⟩
end Go.Proofs.YtccjepndhlobpaaGreatDoor
