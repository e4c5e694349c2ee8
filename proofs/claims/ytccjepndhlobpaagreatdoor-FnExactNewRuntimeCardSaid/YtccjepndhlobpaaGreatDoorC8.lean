/-
  Plain facts and facts on memory that the walks lean on.
-/
import Derived.Test.YtccjepndhlobpaaGreatDoorC5
/-
  Walks: what may be where.
-/
namespace Go.Proofs.YtccjepndhlobpaaGreatDoor
open Go.RowKit
set_option linter.unusedVariables false
set_option linter.unusedSimpArgs false
/-- The controls that nodes with a parent may have. -/
def allowedL (s:Srt) (b:Big) (p:Int):List Int:=if p<0 then s.tops else s.nest.getD (ndAt b p).control.toNat []
def hasI (l:List Int) (n:Int):Bool:=l.any (fun x=>x == n)
theorem hasI_comm (l:List Int) (n:Int):l.any (fun x=>n == x)=hasI l n:=by
 unfold hasI;congr 1;funext x;rw [Bool.eq_iff_iff];simp only [beq_iff_eq];exact ⟨fun h=>h.symm,fun h=>h.symm⟩
attribute [local irreducible] inR
set_option maxHeartbeats 1600000 in
theorem c_spec_l1Has (lo hi:Nat) (v:Value) (l:List Int) (n:Int) (w:World) (h:IntsV lo hi w v l) :
 Calls Tryz.prog 209 #[v,.int .i64 n] w fun e w'=>e=.returned (.bool (hasI l n))∧Ext w w':=by
 obtain ⟨a,k,rfl,g1,g2,g3,g4⟩:=h
 unfold maxLen at g2
 go_enter Tryz.func209,Tryz.ntmps209
 go_wp2
 go_loopw [5] (fun c wr=>∃i:Nat,c=.int .i64 i∧i≤l.length∧(l.take i).any (fun x=>x == n)=false∧Ext w wr) (fun c _=>l.length - (intOf c).toNat)
 case atStart=>exact ⟨0,rfl,Nat.zero_le _,rfl,xw⟩
 case round=>
  obtain ⟨i,rfl,hi0,hok,hX⟩:=hrel
  have HOK:=Lib.hid hok
  clear hok
  by_cases hlt:i<l.length
  ·rcases g4 with g4|⟨b,o,rfl,gb1,gb2,g4⟩
   ·subst g4;simp at hlt
   obtain ⟨cs,hcl,⟨rfl,e1⟩,hc⟩:=g4 i hlt
   have q0:=hX.keep (hc 0 _ rfl)
   rw [Nat.mul_one,Nat.add_zero] at q0
   clear g4 hc
   have HT:=Lib.hid (any_take_succ (fun x=>x == n) l i hlt)
   have HY:=Lib.hid (any_of (fun x=>x == n) l i hlt)
   cases hst:(l[i] == n)
   ·have HST:=Lib.hid hst
    go_wp2
    go_roundw
    case rel=>exact ⟨i+1,rfl,by omega,by rw [HT.out,HOK.out];exact HST.out,xw⟩
    ·simp only [intOf];omega
   ·have HA:=Lib.hid (HY.out hst)
    go_wp2
    go_ret
    exact ⟨ret_bool (by unfold hasI;rw [HA.out]),xw⟩
  ·go_wp2
   go_ret
   exact ⟨ret_bool (by unfold hasI;rw [← HOK.out,List.take_of_length_le (by omega)]),xw⟩
set_option maxHeartbeats 1600000 in
theorem c_slices_Index_int_int (lo hi:Nat) (v:Value) (l:List Int) (n:Int) (w:World) (h:IntsV lo hi w v l) :
 Calls Tryz.prog 221 #[v,.int .i64 n] w fun e w'=>∃r:Int,e=.returned (.int .i64 r)∧decide (0≤r)=hasI l n∧Ext w w':=by
 obtain ⟨a,k,rfl,g1,g2,g3,g4⟩:=h
 unfold maxLen at g2
 have HCM:=Lib.hid (hasI_comm l n)
 go_enter Tryz.func221,Tryz.ntmps221
 go_wp2
 go_loopw [8] (fun c wr=>∃i:Nat,c=.int .i64 i∧i≤l.length∧(l.take i).any (fun x=>n == x)=false∧Ext w wr) (fun c _=>l.length - (intOf c).toNat)
 case atStart=>exact ⟨0,rfl,Nat.zero_le _,rfl,xw⟩
 case round=>
  obtain ⟨i,rfl,hi0,hok,hX⟩:=hrel
  have HOK:=Lib.hid hok
  clear hok
  by_cases hlt:i<l.length
  ·rcases g4 with g4|⟨b,o,rfl,gb1,gb2,g4⟩
   ·subst g4;simp at hlt
   obtain ⟨cs,hcl,⟨rfl,e1⟩,hc⟩:=g4 i hlt
   have q0:=hX.keep (hc 0 _ rfl)
   rw [Nat.mul_one,Nat.add_zero] at q0
   clear g4 hc
   have HT:=Lib.hid (any_take_succ (fun x=>n == x) l i hlt)
   have HY:=Lib.hid (any_of (fun x=>n == x) l i hlt)
   cases hst:(n == l[i])
   ·have HST:=Lib.hid hst
    go_wp2
    go_roundw
    case rel=>exact ⟨i+1,rfl,by omega,by rw [HT.out,HOK.out];exact HST.out,xw⟩
    ·simp only [intOf];omega
   ·have HA:=Lib.hid (HY.out hst)
    go_wp2
    go_ret
    exact ⟨_,rfl,by rw [← HCM.out,HA.out];simp,xw⟩
  ·go_wp2
   go_ret
   exact ⟨_,rfl,by have:=HOK.out;rw [List.take_of_length_le (by omega),HCM.out] at this;rw [this];rfl,xw⟩
theorem c_slices_Contains_int_int (lo hi:Nat) (v:Value) (l:List Int) (n:Int) (w:World) (h:IntsV lo hi w v l) :
 Calls Tryz.prog 187 #[v,.int .i64 n] w fun e w'=>e=.returned (.bool (hasI l n))∧Ext w w':=by
 have H:=c_slices_Index_int_int lo hi v l n w h
 generalize hasI l n=r0 at H ⊢
 go_enter Tryz.func187,Tryz.ntmps187
 go_wp2_with (go_at_call 221;refine H.mono ?_;rintro e y ⟨r,rfl,hr,hb⟩)
 all_goals go_ret
 all_goals exact ⟨ret_bool (by simp),xw⟩
set_option maxRecDepth 100000 in
set_option maxHeartbeats 1600000 in
theorem c_spec_l7Allowed (lo hi lo' hi':Nat) (cs ds:List Value) (s:Srt) (b:Big) (p:Int) (w:World) (hs:SrtP lo hi w cs s) (h:BigP lo' hi' w ds b) (hp:p<0∨∃n:Nat,∃hn:n<b.nodes.length,p=n∧0≤(b.nodes[n]).control∧(b.nodes[n]).control<s.nest.length) :
 Calls Tryz.prog 210 #[.agg cs.toArray,.agg ds.toArray,.int .i64 p] w fun e w'=>∃v,e=.returned v∧SlV 1 IntP lo hi w' v (allowedL s b p)∧Ext w w':=by
 obtain ⟨u0,u1,u2,u3,u4,rfl,hT,hNe,hSo,hM,hA⟩:=hs
 obtain ⟨v1,v2,v4,v5,rfl,r1,r2,hN,hS,hO,hI⟩:=h
 obtain ⟨a1,k1,rfl,g1,g2,g3,g4⟩:=hN
 obtain ⟨c1,l1,rfl,m1,m2,m3,m4⟩:=hNe
 unfold maxLen at g2 m2
 obtain ⟨W0,hW0,hbx,hx0,hz⟩:=box_facts w [u0,.slice c1 s.nest.length l1,u2,u3,u4] 39
 obtain ⟨W1,hW1,hbx1,hx1,hz1⟩:=box_facts W0 [.int .i64 b.roots,.slice a1 b.nodes.length k1,v2,.int .i64 b.edges,v4,v5] 44
 have p0:=hx1.keep (hbx 0 _ rfl).1
 have p1:=hx1.keep (hbx 1 _ rfl).1
 have s1:=(hbx1 1 _ rfl).1
 have hzz:w.heap.size<W0.heap.size:=by omega
 clear hz hz1 hbx hbx1
 have hx:=hx0.trans hx1
 by_cases hneg:p<0
 ·have HA:=Lib.hid (show allowedL s b p=s.tops by unfold allowedL;rw [if_pos hneg])
  have hd:decide (p<0)=true:=decide_eq_true hneg
  obtain ⟨ta,tk,rfl,t1,t2,t3,t4⟩:=id hT
  go_enter Tryz.func210,Tryz.ntmps210
  go_wp2
  go_ret
  exact ⟨_,rfl,by rw [HA.out];exact hT.ext IntP.keeps hx,hx⟩
 ·obtain ⟨n,hn,rfl,hc0,hc1⟩:∃n:Nat,∃hn:n<b.nodes.length,p=n∧0≤(b.nodes[n]).control∧(b.nodes[n]).control<s.nest.length:=by
   rcases hp with hp|hp
   ·exact absurd hp hneg
   ·exact hp
  have hnd:=ndAt_nat b n hn
  rcases g4 with g4|⟨b1,o1,rfl,gb1,gb2,g4⟩
  ·rw [g4] at hn;simp at hn
  obtain ⟨es,hl,hnp,hcs⟩:=g4 n hn
  generalize b.nodes[n]=nd at hnp hnd hc0 hc1
  obtain ⟨nc,np,nl⟩:=nd
  dsimp only at *
  obtain ⟨m,rfl⟩:=Int.eq_ofNat_of_zero_le hc0
  have hml:m<s.nest.length:=by omega
  obtain ⟨nv,rfl,e1,e2,e3⟩:=hnp
  have q0:=hx.keep (hcs 0 _ rfl)
  rw [Nat.add_zero] at q0
  rcases m4 with m4|⟨b2,o2,rfl,mb1,mb2,m4⟩
  ·rw [m4] at hml;simp at hml
  obtain ⟨fs,fl,⟨rv,rfl,hR⟩,hfs⟩:=m4 m hml
  have HR:=hR.ext IntP.keeps hx
  obtain ⟨ra,rk,rfl,y1,y2,y3,y4⟩:=id hR
  have t0:=hx.keep (hfs 0 _ rfl)
  rw [Nat.mul_one,Nat.add_zero] at t0
  clear hcs hfs g4 m4
  have HA:=Lib.hid (show allowedL s b (n:Int)=s.nest[m] by unfold allowedL;rw [if_neg hneg,hnd,Int.toNat_natCast,List.getD_eq_getElem?_getD,List.getElem?_eq_getElem hml];rfl)
  have hd:decide ((n:Int)<0)=false:=decide_eq_false hneg
  have j0:(0:Int)≤(n:Int):=by omega
  have j1:(n:Int)<(b.nodes.length:Int):=by omega
  have j2:(0:Int)≤(m:Int):=by omega
  have j3:(m:Int)<(s.nest.length:Int):=by omega
  clear hnd hp
  go_enter Tryz.func210,Tryz.ntmps210
  go_wp2_with fail
  refine wp_region_held_drew (S:=(fun w'=>Ext W1 w')) (by kernel_rfl) ?_ (fun hHeld=>?_)
  ·refine xw
  refine tkP 0 ?_ ?_ ?_;rotate_left;focus (intro w;go_simp;try with_reducible rfl)
  try simp only [Act.put,aput]
  refine tkY 1 ?_ ?_ ?_;rotate_left;focus (intro w hSw;(try dsimp only at hSw);have sx:=hSw;have s_p1:=Ext.keep sx p1;have s_s1:=Ext.keep sx s1;have s_q0:=Ext.keep sx q0;have s_t0:=Ext.keep sx t0;go_simp;try with_reducible rfl)
  try simp only [Act.put,aput]
  refine tkP 2 ?_ ?_ ?_;rotate_left;focus (intro w;go_simp;try with_reducible rfl)
  try simp only [Act.put,aput]
  refine tkY 3 ?_ ?_ ?_;rotate_left;focus (intro w hSw;(try dsimp only at hSw);have sx:=hSw;have s_p1:=Ext.keep sx p1;have s_s1:=Ext.keep sx s1;have s_q0:=Ext.keep sx q0;have s_t0:=Ext.keep sx t0;go_simp;try with_reducible rfl)
  try simp only [Act.put,aput]
  refine tkP 4 ?_ ?_ ?_;rotate_left;focus (intro w;go_simp;try with_reducible rfl)
  try simp only [Act.put,aput]
  refine tkP 5 ?_ ?_ ?_;rotate_left;focus (intro w;go_simp;try with_reducible rfl)
  try simp only [Act.put,aput]
  refine tkP 6 ?_ ?_ ?_;rotate_left;focus (intro w;go_simp;try with_reducible rfl)
  try simp only [Act.put,aput]
  refine tkY 7 ?_ ?_ ?_;rotate_left;focus (intro w hSw;(try dsimp only at hSw);have sx:=hSw;have s_p1:=Ext.keep sx p1;have s_s1:=Ext.keep sx s1;have s_q0:=Ext.keep sx q0;have s_t0:=Ext.keep sx t0;go_simp;try with_reducible rfl)
  try simp only [Act.put,aput]
  refine tkP 8 ?_ ?_ ?_;rotate_left;focus (intro w;go_simp;try with_reducible rfl)
  try simp only [Act.put,aput]
  refine tkY 9 ?_ ?_ ?_;rotate_left;focus (intro w hSw;(try dsimp only at hSw);have sx:=hSw;have s_p1:=Ext.keep sx p1;have s_s1:=Ext.keep sx s1;have s_q0:=Ext.keep sx q0;have s_t0:=Ext.keep sx t0;go_simp;try with_reducible rfl)
  try simp only [Act.put,aput]
  refine tkP 10 ?_ ?_ ?_;rotate_left;focus (intro w;go_simp;try with_reducible rfl)
  try simp only [Act.put,aput]
  refine wpAnyH_done (by kernel_rfl) ?_ _
  all_goals go_wp2
  all_goals go_ret
  all_goals exact ⟨_,rfl,by rw [HA.out];exact hR.ext IntP.keeps xw,xw⟩
set_option maxRecDepth 100000 in
set_option maxHeartbeats 1600000 in
theorem c_impl_Sorting_choices (lo hi lo' hi':Nat) (cs ds:List Value) (s:Srt) (b:Big) (p:Int) (w:World) (hs:SrtP lo hi w cs s) (h:BigP lo' hi' w ds b) (hp:p<0∨∃n:Nat,∃hn:n<b.nodes.length,p=n∧0≤(b.nodes[n]).control∧(b.nodes[n]).control<s.nest.length) :
 Calls Tryz.prog 188 #[.agg cs.toArray,.agg ds.toArray,.int .i64 p] w fun e w'=>∃v,e=.returned v∧SlV 1 IntP lo hi w' v (allowedL s b p)∧Ext w w':=by
 obtain ⟨u0,u1,u2,u3,u4,rfl,hT,hNe,hSo,hM,hA⟩:=hs
 obtain ⟨v1,v2,v4,v5,rfl,r1,r2,hN,hS,hO,hI⟩:=h
 obtain ⟨a1,k1,rfl,g1,g2,g3,g4⟩:=hN
 obtain ⟨c1,l1,rfl,m1,m2,m3,m4⟩:=hNe
 unfold maxLen at g2 m2
 obtain ⟨W0,hW0,hbx,hx0,hz⟩:=box_facts w [u0,.slice c1 s.nest.length l1,u2,u3,u4] 39
 obtain ⟨W1,hW1,hbx1,hx1,hz1⟩:=box_facts W0 [.int .i64 b.roots,.slice a1 b.nodes.length k1,v2,.int .i64 b.edges,v4,v5] 44
 have p0:=hx1.keep (hbx 0 _ rfl).1
 have p1:=hx1.keep (hbx 1 _ rfl).1
 have s1:=(hbx1 1 _ rfl).1
 have hzz:w.heap.size<W0.heap.size:=by omega
 clear hz hz1 hbx hbx1
 have hx:=hx0.trans hx1
 by_cases hneg:p<0
 ·have HA:=Lib.hid (show allowedL s b p=s.tops by unfold allowedL;rw [if_pos hneg])
  have hd:decide (p<0)=true:=decide_eq_true hneg
  obtain ⟨ta,tk,rfl,t1,t2,t3,t4⟩:=id hT
  go_enter Tryz.func188,Tryz.ntmps188
  go_wp2
  go_ret
  exact ⟨_,rfl,by rw [HA.out];exact hT.ext IntP.keeps hx,hx⟩
 ·obtain ⟨n,hn,rfl,hc0,hc1⟩:∃n:Nat,∃hn:n<b.nodes.length,p=n∧0≤(b.nodes[n]).control∧(b.nodes[n]).control<s.nest.length:=by
   rcases hp with hp|hp
   ·exact absurd hp hneg
   ·exact hp
  have hnd:=ndAt_nat b n hn
  rcases g4 with g4|⟨b1,o1,rfl,gb1,gb2,g4⟩
  ·rw [g4] at hn;simp at hn
  obtain ⟨es,hl,hnp,hcs⟩:=g4 n hn
  generalize b.nodes[n]=nd at hnp hnd hc0 hc1
  obtain ⟨nc,np,nl⟩:=nd
  dsimp only at *
  obtain ⟨m,rfl⟩:=Int.eq_ofNat_of_zero_le hc0
  have hml:m<s.nest.length:=by omega
  obtain ⟨nv,rfl,e1,e2,e3⟩:=hnp
  have q0:=hx.keep (hcs 0 _ rfl)
  rw [Nat.add_zero] at q0
  rcases m4 with m4|⟨b2,o2,rfl,mb1,mb2,m4⟩
  ·rw [m4] at hml;simp at hml
  obtain ⟨fs,fl,⟨rv,rfl,hR⟩,hfs⟩:=m4 m hml
  have HR:=hR.ext IntP.keeps hx
  obtain ⟨ra,rk,rfl,y1,y2,y3,y4⟩:=id hR
  have t0:=hx.keep (hfs 0 _ rfl)
  rw [Nat.mul_one,Nat.add_zero] at t0
  clear hcs hfs g4 m4
  have HA:=Lib.hid (show allowedL s b (n:Int)=s.nest[m] by unfold allowedL;rw [if_neg hneg,hnd,Int.toNat_natCast,List.getD_eq_getElem?_getD,List.getElem?_eq_getElem hml];rfl)
  have hd:decide ((n:Int)<0)=false:=decide_eq_false hneg
  have j0:(0:Int)≤(n:Int):=by omega
  have j1:(n:Int)<(b.nodes.length:Int):=by omega
  have j2:(0:Int)≤(m:Int):=by omega
  have j3:(m:Int)<(s.nest.length:Int):=by omega
  clear hnd hp
  go_enter Tryz.func188,Tryz.ntmps188
  go_wp2_with fail
  refine wp_region_held_drew (S:=(fun w'=>Ext W1 w')) (by kernel_rfl) ?_ (fun hHeld=>?_)
  ·refine xw
  refine tkP 0 ?_ ?_ ?_;rotate_left;focus (intro w;go_simp;try with_reducible rfl)
  try simp only [Act.put,aput]
  refine tkY 1 ?_ ?_ ?_;rotate_left;focus (intro w hSw;(try dsimp only at hSw);have sx:=hSw;have s_p1:=Ext.keep sx p1;have s_s1:=Ext.keep sx s1;have s_q0:=Ext.keep sx q0;have s_t0:=Ext.keep sx t0;go_simp;try with_reducible rfl)
  try simp only [Act.put,aput]
  refine tkP 2 ?_ ?_ ?_;rotate_left;focus (intro w;go_simp;try with_reducible rfl)
  try simp only [Act.put,aput]
  refine tkY 3 ?_ ?_ ?_;rotate_left;focus (intro w hSw;(try dsimp only at hSw);have sx:=hSw;have s_p1:=Ext.keep sx p1;have s_s1:=Ext.keep sx s1;have s_q0:=Ext.keep sx q0;have s_t0:=Ext.keep sx t0;go_simp;try with_reducible rfl)
  try simp only [Act.put,aput]
  refine tkP 4 ?_ ?_ ?_;rotate_left;focus (intro w;go_simp;try with_reducible rfl)
  try simp only [Act.put,aput]
  refine tkP 5 ?_ ?_ ?_;rotate_left;focus (intro w;go_simp;try with_reducible rfl)
  try simp only [Act.put,aput]
  refine tkP 6 ?_ ?_ ?_;rotate_left;focus (intro w;go_simp;try with_reducible rfl)
  try simp only [Act.put,aput]
  refine tkY 7 ?_ ?_ ?_;rotate_left;focus (intro w hSw;(try dsimp only at hSw);have sx:=hSw;have s_p1:=Ext.keep sx p1;have s_s1:=Ext.keep sx s1;have s_q0:=Ext.keep sx q0;have s_t0:=Ext.keep sx t0;go_simp;try with_reducible rfl)
  try simp only [Act.put,aput]
  refine tkP 8 ?_ ?_ ?_;rotate_left;focus (intro w;go_simp;try with_reducible rfl)
  try simp only [Act.put,aput]
  refine tkY 9 ?_ ?_ ?_;rotate_left;focus (intro w hSw;(try dsimp only at hSw);have sx:=hSw;have s_p1:=Ext.keep sx p1;have s_s1:=Ext.keep sx s1;have s_q0:=Ext.keep sx q0;have s_t0:=Ext.keep sx t0;go_simp;try with_reducible rfl)
  try simp only [Act.put,aput]
  refine tkP 10 ?_ ?_ ?_;rotate_left;focus (intro w;go_simp;try with_reducible rfl)
  try simp only [Act.put,aput]
  refine wpAnyH_done (by kernel_rfl) ?_ _
  all_goals go_wp2
  all_goals go_ret
  all_goals exact ⟨_,rfl,by rw [HA.out];exact hR.ext IntP.keeps xw,xw⟩
end Go.Proofs.YtccjepndhlobpaaGreatDoor

/-
  Walks: faults of a node, counts of ports on a link.
-/
namespace Go.Proofs.YtccjepndhlobpaaGreatDoor
open Go.RowKit
set_option linter.unusedVariables false
set_option linter.unusedSimpArgs false
abbrev Flt:=Int × Int × Int
def FltP:Lie Flt:=fun _ _ _ cs x=>cs = [.int .i64 x.1,.int .i64 x.2.1,.int .i64 x.2.2]∧I64 x.1∧I64 x.2.1∧I64 x.2.2
theorem FltP.keeps:Keeps FltP:=fun _ _ _ _ _ _ _ h=>h
theorem FltP.widens:Widens FltP:=fun _ _ _ _ _ _ _ _ _ h=>h
theorem FltP.flat:Flat FltP:=fun _ _ _ _ _ _ _ _ h=>h
/-- The faults of a node. -/
def placedL (s:Srt) (b:Big) (i:Nat):List Flt:=if hasI (allowedL s b (ndAt b i).parent) (ndAt b i).control then [] else if (ndAt b i).parent<0 then [(1,(i:Int),-1 - (ndAt b i).parent)] else [(2,(i:Int),(ndAt b i).parent)]
theorem box_one {w:World} {cs:List Value} {T:TypeId} {size:Nat} {α:Type} {P:Lie α} {x:α} {lo:Nat} (hl:cs.length=size) (hb:lo≤w.heap.size) (hP:P lo (w.heap.size+1) (w.alloc (.cells cs.toArray T)) cs x):SlV size P lo (w.alloc (.cells cs.toArray T)).heap.size (w.alloc (.cells cs.toArray T)) (.slice (some ⟨w.heap.size,0,none⟩) 1 1) [x]:=by
 refine ⟨_,1,rfl,Nat.le_refl _,by decide,fun h=>(by cases h),.inr ⟨w.heap.size,0,rfl,hb,by simp,fun i hi=>?_⟩⟩
 have e:i=0:=by simp at hi;omega
 subst e
 refine ⟨cs,hl,by simpa using hP,fun j u hj=>?_⟩
 have:=(BoxAt.new w T cs w.heap.size rfl j u hj).1
 simpa using this
theorem slv_empty {w:World} {size:Nat} {α:Type} {P:Lie α} {lo hi:Nat} {a:Option Addr} {k:Nat} (hk:k≤maxLen) (ha:a=none→k=0):SlV size P lo hi w (.slice a 0 k) []:=⟨a,k,rfl,Nat.zero_le _,hk,ha,.inl rfl⟩
/-- A parent that is fit to look what may be in it. -/
def ParOk (s:Srt) (b:Big) (p:Int):Prop:=p<0∨∃n:Nat,∃hn:n<b.nodes.length,p=n∧0≤(b.nodes[n]).control∧(b.nodes[n]).control<s.nest.length
attribute [local irreducible] inR hasI allowedL
set_option maxRecDepth 100000 in
set_option maxHeartbeats 3200000 in
theorem c_spec_l7Placed (lo hi lo' hi':Nat) (cs ds:List Value) (s:Srt) (b:Big) (i:Nat) (w:World) (hs:SrtP lo hi w cs s) (h:BigP lo' hi' w ds b) (hn:i<b.nodes.length) (hlen:b.nodes.length≤1000) (hp:ParOk s b (b.nodes[i]).parent) :
 Calls Tryz.prog 157 #[.agg cs.toArray,.agg ds.toArray,.int .i64 i] w fun e w'=>∃v,e=.returned v∧SlV 3 FltP w.heap.size w'.heap.size w' v (placedL s b i)∧Ext w w':=by
 have hSS:=hs
 have hBB:=h
 obtain ⟨u0,u1,u2,u3,u4,rfl,hT,hNe,hSo,hM,hA⟩:=hs
 obtain ⟨v1,v2,v4,v5,rfl,r1,r2,hN,hS,hO,hI⟩:=h
 obtain ⟨a1,k1,rfl,g1,g2,g3,g4⟩:=hN
 unfold maxLen at g2
 obtain ⟨W0,hW0,hbx,hx0,hz⟩:=box_facts w [u0,u1,u2,u3,u4] 39
 obtain ⟨W1,hW1,hbx1,hx1,hz1⟩:=box_facts W0 [.int .i64 b.roots,.slice a1 b.nodes.length k1,v2,.int .i64 b.edges,v4,v5] 44
 have p0:=hx1.keep (hbx 0 _ rfl).1
 have p1:=hx1.keep (hbx 1 _ rfl).1
 have p2:=hx1.keep (hbx 2 _ rfl).1
 have p3:=hx1.keep (hbx 3 _ rfl).1
 have p4:=hx1.keep (hbx 4 _ rfl).1
 have s0:=(hbx1 0 _ rfl).1
 have s1:=(hbx1 1 _ rfl).1
 have s2:=(hbx1 2 _ rfl).1
 have s3:=(hbx1 3 _ rfl).1
 have s4:=(hbx1 4 _ rfl).1
 have s5:=(hbx1 5 _ rfl).1
 have hzz:w.heap.size<W0.heap.size:=by omega
 clear hz hz1 hbx hbx1
 have hx:=hx0.trans hx1
 replace hSS:=SrtP.keeps _ _ _ _ _ _ (Same.ext hx) hSS
 replace hBB:=BigP.keeps _ _ _ _ _ _ (Same.ext hx) hBB
 have hnd:=ndAt_nat b i hn
 have HPL:Hid (placedL s b i=if hasI (allowedL s b (ndAt b i).parent) (ndAt b i).control then [] else if (ndAt b i).parent<0 then [(1,(i:Int),-1 - (ndAt b i).parent)] else [(2,(i:Int),(ndAt b i).parent)]):=Lib.hid rfl
 rw [hnd] at HPL
 rcases g4 with g4|⟨b1,o1,rfl,gb1,gb2,g4⟩
 ·rw [g4] at hn;simp at hn
 obtain ⟨es,hl,hnp,hcs⟩:=g4 i hn
 clear hnd
 generalize b.nodes[i]=nd at hnp HPL hp
 obtain ⟨nc,np,nl⟩:=nd
 dsimp only at *
 obtain ⟨nv,rfl,e1,e2,e3⟩:=hnp
 have q0:=hx.keep (hcs 0 _ rfl)
 have q1:=hx.keep (hcs 1 _ rfl)
 rw [Nat.add_zero] at q0
 clear hcs g4
 unfold I64 at e2
 have j0:(0:Int)≤(i:Int):=by omega
 have j1:(i:Int)<(b.nodes.length:Int):=by omega
 have HPA:=Lib.hid hp
 clear hp
 have hi64:I64 (i:Int):=i64_nat (by omega)
 cases hh:hasI (allowedL s b np) nc
 ·have HH:=Lib.hid hh
  clear hh
  by_cases hneg:np<0
  ·have HV:=Lib.hid (show placedL s b i = [(1,(i:Int),-1 - np)] by rw [HPL.out,HH.out,if_neg (by decide),if_pos hneg])
   have hd:decide (np<0)=true:=decide_eq_true hneg
   go_enter Tryz.func157,Tryz.ntmps157
   go_wp2_with fail
   refine wp_region_held_drew (S:=(fun w'=>Ext W1 w')) (by kernel_rfl) ?_ (fun hHeld=>?_)
   ·refine xw
   refine tkY 0 ?_ ?_ ?_;rotate_left;focus (intro w hSw;(try dsimp only at hSw);have sx:=hSw;have s_p0:=Ext.keep sx p0;have s_p1:=Ext.keep sx p1;have s_p2:=Ext.keep sx p2;have s_p3:=Ext.keep sx p3;have s_p4:=Ext.keep sx p4;have s_s0:=Ext.keep sx s0;have s_s1:=Ext.keep sx s1;have s_s2:=Ext.keep sx s2;have s_s3:=Ext.keep sx s3;have s_s4:=Ext.keep sx s4;have s_s5:=Ext.keep sx s5;have s_q0:=Ext.keep sx q0;have s_q1:=Ext.keep sx q1;go_simp;try with_reducible rfl)
   try simp only [Act.put,aput]
   refine tkY 1 ?_ ?_ ?_;rotate_left;focus (intro w hSw;(try dsimp only at hSw);have sx:=hSw;have s_p0:=Ext.keep sx p0;have s_p1:=Ext.keep sx p1;have s_p2:=Ext.keep sx p2;have s_p3:=Ext.keep sx p3;have s_p4:=Ext.keep sx p4;have s_s0:=Ext.keep sx s0;have s_s1:=Ext.keep sx s1;have s_s2:=Ext.keep sx s2;have s_s3:=Ext.keep sx s3;have s_s4:=Ext.keep sx s4;have s_s5:=Ext.keep sx s5;have s_q0:=Ext.keep sx q0;have s_q1:=Ext.keep sx q1;go_simp;try with_reducible rfl)
   try simp only [Act.put,aput]
   refine tkP 2 ?_ ?_ ?_;rotate_left;focus (intro w;go_simp;try with_reducible rfl)
   try simp only [Act.put,aput]
   refine tkP 4 ?_ ?_ ?_;rotate_left;focus (intro w;go_simp;try with_reducible rfl)
   try simp only [Act.put,aput]
   refine tkY 5 ?_ ?_ ?_;rotate_left;focus (intro w hSw;(try dsimp only at hSw);have sx:=hSw;have s_p0:=Ext.keep sx p0;have s_p1:=Ext.keep sx p1;have s_p2:=Ext.keep sx p2;have s_p3:=Ext.keep sx p3;have s_p4:=Ext.keep sx p4;have s_s0:=Ext.keep sx s0;have s_s1:=Ext.keep sx s1;have s_s2:=Ext.keep sx s2;have s_s3:=Ext.keep sx s3;have s_s4:=Ext.keep sx s4;have s_s5:=Ext.keep sx s5;have s_q0:=Ext.keep sx q0;have s_q1:=Ext.keep sx q1;go_simp;try with_reducible rfl)
   try simp only [Act.put,aput]
   refine tkP 6 ?_ ?_ ?_;rotate_left;focus (intro w;go_simp;try with_reducible rfl)
   try simp only [Act.put,aput]
   refine tkP 7 ?_ ?_ ?_;rotate_left;focus (intro w;go_simp;try with_reducible rfl)
   try simp only [Act.put,aput]
   refine tkP 8 ?_ ?_ ?_;rotate_left;focus (intro w;go_simp;try with_reducible rfl)
   try simp only [Act.put,aput]
   refine tkY 9 ?_ ?_ ?_;rotate_left;focus (intro w hSw;(try dsimp only at hSw);have sx:=hSw;have s_p0:=Ext.keep sx p0;have s_p1:=Ext.keep sx p1;have s_p2:=Ext.keep sx p2;have s_p3:=Ext.keep sx p3;have s_p4:=Ext.keep sx p4;have s_s0:=Ext.keep sx s0;have s_s1:=Ext.keep sx s1;have s_s2:=Ext.keep sx s2;have s_s3:=Ext.keep sx s3;have s_s4:=Ext.keep sx s4;have s_s5:=Ext.keep sx s5;have s_q0:=Ext.keep sx q0;have s_q1:=Ext.keep sx q1;go_simp;try with_reducible rfl)
   try simp only [Act.put,aput]
   refine wpAnyH_ready (rs:=[3]) (by kernel_rfl) (by simp) ?_
   refine AllReadyH.cons rfl (fun K hK=>?_) AllReadyH.nil
   (try simp only [aput])
   go_simp
   (have hSw:=hHeld;(try dsimp only at hSw);have sx:=hSw;have s_p0:=Ext.keep sx p0;have s_p1:=Ext.keep sx p1;have s_p2:=Ext.keep sx p2;have s_p3:=Ext.keep sx p3;have s_p4:=Ext.keep sx p4;have s_s0:=Ext.keep sx s0;have s_s1:=Ext.keep sx s1;have s_s2:=Ext.keep sx s2;have s_s3:=Ext.keep sx s3;have s_s4:=Ext.keep sx s4;have s_s5:=Ext.keep sx s5;have s_q0:=Ext.keep sx q0;have s_q1:=Ext.keep sx q1;have s_hSS:=SrtP.keeps _ _ _ _ _ _ (Same.ext sx) hSS;have s_hBB:=BigP.keeps _ _ _ _ _ _ (Same.ext sx) hBB;(go_at_call 210;refine (c_spec_l7Allowed lo hi lo' hi' _ _ s b np _ s_hSS s_hBB HPA.out).mono ?_;rintro e y ⟨vA,rfl,hVA,hb⟩))
   show K _ _
   refine hK.out _ _ (by (have hh:=hHeld;(try dsimp only at hh);exact hh.trans hb)) (fun hHeld=>?_)
   clear hK K
   try simp only [Act.put,aput]
   refine wpAnyH_ready (rs:=[10]) (by kernel_rfl) (by simp) ?_
   refine AllReadyH.cons rfl (fun K hK=>?_) AllReadyH.nil
   (try simp only [aput])
   go_simp
   (go_at_call 209;refine (c_spec_l1Has lo hi _ (allowedL s b np) nc _ (hVA.ext IntP.keeps xw)).mono ?_;rintro e y ⟨rfl,hb⟩;rw [HH.out])
   show K _ _
   refine hK.out _ _ (by (have hh:=hHeld;(try dsimp only at hh);exact hh.trans hb)) (fun hHeld=>?_)
   clear hK K
   try simp only [Act.put,aput]
   refine wpAnyH_done (by kernel_rfl) ?_ _
   all_goals go_wp2
   all_goals have hY:=hHeld
   all_goals have hXY:=hx.trans hY
   all_goals have hsz:=Below.size hXY
   all_goals go_ret
   all_goals exact ⟨_,rfl,by rw [HV.out];exact box_one rfl (by omega) ⟨rfl,by unfold I64;omega,hi64,by unfold I64;dsimp only;omega⟩,xw⟩
  ·have HV:=Lib.hid (show placedL s b i = [(2,(i:Int),np)] by rw [HPL.out,HH.out,if_neg (by decide),if_neg hneg])
   have hd:decide (np<0)=false:=decide_eq_false hneg
   go_enter Tryz.func157,Tryz.ntmps157
   go_wp2_with fail
   refine wp_region_held_drew (S:=(fun w'=>Ext W1 w')) (by kernel_rfl) ?_ (fun hHeld=>?_)
   ·refine xw
   refine tkY 0 ?_ ?_ ?_;rotate_left;focus (intro w hSw;(try dsimp only at hSw);have sx:=hSw;have s_p0:=Ext.keep sx p0;have s_p1:=Ext.keep sx p1;have s_p2:=Ext.keep sx p2;have s_p3:=Ext.keep sx p3;have s_p4:=Ext.keep sx p4;have s_s0:=Ext.keep sx s0;have s_s1:=Ext.keep sx s1;have s_s2:=Ext.keep sx s2;have s_s3:=Ext.keep sx s3;have s_s4:=Ext.keep sx s4;have s_s5:=Ext.keep sx s5;have s_q0:=Ext.keep sx q0;have s_q1:=Ext.keep sx q1;go_simp;try with_reducible rfl)
   try simp only [Act.put,aput]
   refine tkY 1 ?_ ?_ ?_;rotate_left;focus (intro w hSw;(try dsimp only at hSw);have sx:=hSw;have s_p0:=Ext.keep sx p0;have s_p1:=Ext.keep sx p1;have s_p2:=Ext.keep sx p2;have s_p3:=Ext.keep sx p3;have s_p4:=Ext.keep sx p4;have s_s0:=Ext.keep sx s0;have s_s1:=Ext.keep sx s1;have s_s2:=Ext.keep sx s2;have s_s3:=Ext.keep sx s3;have s_s4:=Ext.keep sx s4;have s_s5:=Ext.keep sx s5;have s_q0:=Ext.keep sx q0;have s_q1:=Ext.keep sx q1;go_simp;try with_reducible rfl)
   try simp only [Act.put,aput]
   refine tkP 2 ?_ ?_ ?_;rotate_left;focus (intro w;go_simp;try with_reducible rfl)
   try simp only [Act.put,aput]
   refine tkP 4 ?_ ?_ ?_;rotate_left;focus (intro w;go_simp;try with_reducible rfl)
   try simp only [Act.put,aput]
   refine tkY 5 ?_ ?_ ?_;rotate_left;focus (intro w hSw;(try dsimp only at hSw);have sx:=hSw;have s_p0:=Ext.keep sx p0;have s_p1:=Ext.keep sx p1;have s_p2:=Ext.keep sx p2;have s_p3:=Ext.keep sx p3;have s_p4:=Ext.keep sx p4;have s_s0:=Ext.keep sx s0;have s_s1:=Ext.keep sx s1;have s_s2:=Ext.keep sx s2;have s_s3:=Ext.keep sx s3;have s_s4:=Ext.keep sx s4;have s_s5:=Ext.keep sx s5;have s_q0:=Ext.keep sx q0;have s_q1:=Ext.keep sx q1;go_simp;try with_reducible rfl)
   try simp only [Act.put,aput]
   refine tkP 6 ?_ ?_ ?_;rotate_left;focus (intro w;go_simp;try with_reducible rfl)
   try simp only [Act.put,aput]
   refine tkP 7 ?_ ?_ ?_;rotate_left;focus (intro w;go_simp;try with_reducible rfl)
   try simp only [Act.put,aput]
   refine tkP 8 ?_ ?_ ?_;rotate_left;focus (intro w;go_simp;try with_reducible rfl)
   try simp only [Act.put,aput]
   refine tkY 9 ?_ ?_ ?_;rotate_left;focus (intro w hSw;(try dsimp only at hSw);have sx:=hSw;have s_p0:=Ext.keep sx p0;have s_p1:=Ext.keep sx p1;have s_p2:=Ext.keep sx p2;have s_p3:=Ext.keep sx p3;have s_p4:=Ext.keep sx p4;have s_s0:=Ext.keep sx s0;have s_s1:=Ext.keep sx s1;have s_s2:=Ext.keep sx s2;have s_s3:=Ext.keep sx s3;have s_s4:=Ext.keep sx s4;have s_s5:=Ext.keep sx s5;have s_q0:=Ext.keep sx q0;have s_q1:=Ext.keep sx q1;go_simp;try with_reducible rfl)
   try simp only [Act.put,aput]
   refine wpAnyH_ready (rs:=[3]) (by kernel_rfl) (by simp) ?_
   refine AllReadyH.cons rfl (fun K hK=>?_) AllReadyH.nil
   (try simp only [aput])
   go_simp
   (have hSw:=hHeld;(try dsimp only at hSw);have sx:=hSw;have s_p0:=Ext.keep sx p0;have s_p1:=Ext.keep sx p1;have s_p2:=Ext.keep sx p2;have s_p3:=Ext.keep sx p3;have s_p4:=Ext.keep sx p4;have s_s0:=Ext.keep sx s0;have s_s1:=Ext.keep sx s1;have s_s2:=Ext.keep sx s2;have s_s3:=Ext.keep sx s3;have s_s4:=Ext.keep sx s4;have s_s5:=Ext.keep sx s5;have s_q0:=Ext.keep sx q0;have s_q1:=Ext.keep sx q1;have s_hSS:=SrtP.keeps _ _ _ _ _ _ (Same.ext sx) hSS;have s_hBB:=BigP.keeps _ _ _ _ _ _ (Same.ext sx) hBB;(go_at_call 210;refine (c_spec_l7Allowed lo hi lo' hi' _ _ s b np _ s_hSS s_hBB HPA.out).mono ?_;rintro e y ⟨vA,rfl,hVA,hb⟩))
   show K _ _
   refine hK.out _ _ (by (have hh:=hHeld;(try dsimp only at hh);exact hh.trans hb)) (fun hHeld=>?_)
   clear hK K
   try simp only [Act.put,aput]
   refine wpAnyH_ready (rs:=[10]) (by kernel_rfl) (by simp) ?_
   refine AllReadyH.cons rfl (fun K hK=>?_) AllReadyH.nil
   (try simp only [aput])
   go_simp
   (go_at_call 209;refine (c_spec_l1Has lo hi _ (allowedL s b np) nc _ (hVA.ext IntP.keeps xw)).mono ?_;rintro e y ⟨rfl,hb⟩;rw [HH.out])
   show K _ _
   refine hK.out _ _ (by (have hh:=hHeld;(try dsimp only at hh);exact hh.trans hb)) (fun hHeld=>?_)
   clear hK K
   try simp only [Act.put,aput]
   refine wpAnyH_done (by kernel_rfl) ?_ _
   all_goals go_wp2
   all_goals have hY:=hHeld
   all_goals have hXY:=hx.trans hY
   all_goals have hsz:=Below.size hXY
   all_goals go_ret
   all_goals exact ⟨_,rfl,by rw [HV.out];exact box_one rfl (by omega) ⟨rfl,by unfold I64;omega,hi64,by unfold I64;dsimp only;omega⟩,xw⟩
 ·have HH:=Lib.hid hh
  have HV:=Lib.hid (show placedL s b i = [] by rw [HPL.out,HH.out,if_pos rfl])
  clear hh
  go_enter Tryz.func157,Tryz.ntmps157
  go_wp2_with fail
  refine wp_region_held_drew (S:=(fun w'=>Ext W1 w')) (by kernel_rfl) ?_ (fun hHeld=>?_)
  ·refine xw
  refine tkY 0 ?_ ?_ ?_;rotate_left;focus (intro w hSw;(try dsimp only at hSw);have sx:=hSw;have s_p0:=Ext.keep sx p0;have s_p1:=Ext.keep sx p1;have s_p2:=Ext.keep sx p2;have s_p3:=Ext.keep sx p3;have s_p4:=Ext.keep sx p4;have s_s0:=Ext.keep sx s0;have s_s1:=Ext.keep sx s1;have s_s2:=Ext.keep sx s2;have s_s3:=Ext.keep sx s3;have s_s4:=Ext.keep sx s4;have s_s5:=Ext.keep sx s5;have s_q0:=Ext.keep sx q0;have s_q1:=Ext.keep sx q1;go_simp;try with_reducible rfl)
  try simp only [Act.put,aput]
  refine tkY 1 ?_ ?_ ?_;rotate_left;focus (intro w hSw;(try dsimp only at hSw);have sx:=hSw;have s_p0:=Ext.keep sx p0;have s_p1:=Ext.keep sx p1;have s_p2:=Ext.keep sx p2;have s_p3:=Ext.keep sx p3;have s_p4:=Ext.keep sx p4;have s_s0:=Ext.keep sx s0;have s_s1:=Ext.keep sx s1;have s_s2:=Ext.keep sx s2;have s_s3:=Ext.keep sx s3;have s_s4:=Ext.keep sx s4;have s_s5:=Ext.keep sx s5;have s_q0:=Ext.keep sx q0;have s_q1:=Ext.keep sx q1;go_simp;try with_reducible rfl)
  try simp only [Act.put,aput]
  refine tkP 2 ?_ ?_ ?_;rotate_left;focus (intro w;go_simp;try with_reducible rfl)
  try simp only [Act.put,aput]
  refine tkP 4 ?_ ?_ ?_;rotate_left;focus (intro w;go_simp;try with_reducible rfl)
  try simp only [Act.put,aput]
  refine tkY 5 ?_ ?_ ?_;rotate_left;focus (intro w hSw;(try dsimp only at hSw);have sx:=hSw;have s_p0:=Ext.keep sx p0;have s_p1:=Ext.keep sx p1;have s_p2:=Ext.keep sx p2;have s_p3:=Ext.keep sx p3;have s_p4:=Ext.keep sx p4;have s_s0:=Ext.keep sx s0;have s_s1:=Ext.keep sx s1;have s_s2:=Ext.keep sx s2;have s_s3:=Ext.keep sx s3;have s_s4:=Ext.keep sx s4;have s_s5:=Ext.keep sx s5;have s_q0:=Ext.keep sx q0;have s_q1:=Ext.keep sx q1;go_simp;try with_reducible rfl)
  try simp only [Act.put,aput]
  refine tkP 6 ?_ ?_ ?_;rotate_left;focus (intro w;go_simp;try with_reducible rfl)
  try simp only [Act.put,aput]
  refine tkP 7 ?_ ?_ ?_;rotate_left;focus (intro w;go_simp;try with_reducible rfl)
  try simp only [Act.put,aput]
  refine tkP 8 ?_ ?_ ?_;rotate_left;focus (intro w;go_simp;try with_reducible rfl)
  try simp only [Act.put,aput]
  refine tkY 9 ?_ ?_ ?_;rotate_left;focus (intro w hSw;(try dsimp only at hSw);have sx:=hSw;have s_p0:=Ext.keep sx p0;have s_p1:=Ext.keep sx p1;have s_p2:=Ext.keep sx p2;have s_p3:=Ext.keep sx p3;have s_p4:=Ext.keep sx p4;have s_s0:=Ext.keep sx s0;have s_s1:=Ext.keep sx s1;have s_s2:=Ext.keep sx s2;have s_s3:=Ext.keep sx s3;have s_s4:=Ext.keep sx s4;have s_s5:=Ext.keep sx s5;have s_q0:=Ext.keep sx q0;have s_q1:=Ext.keep sx q1;go_simp;try with_reducible rfl)
  try simp only [Act.put,aput]
  refine wpAnyH_ready (rs:=[3]) (by kernel_rfl) (by simp) ?_
  refine AllReadyH.cons rfl (fun K hK=>?_) AllReadyH.nil
  (try simp only [aput])
  go_simp
  (have hSw:=hHeld;(try dsimp only at hSw);have sx:=hSw;have s_p0:=Ext.keep sx p0;have s_p1:=Ext.keep sx p1;have s_p2:=Ext.keep sx p2;have s_p3:=Ext.keep sx p3;have s_p4:=Ext.keep sx p4;have s_s0:=Ext.keep sx s0;have s_s1:=Ext.keep sx s1;have s_s2:=Ext.keep sx s2;have s_s3:=Ext.keep sx s3;have s_s4:=Ext.keep sx s4;have s_s5:=Ext.keep sx s5;have s_q0:=Ext.keep sx q0;have s_q1:=Ext.keep sx q1;have s_hSS:=SrtP.keeps _ _ _ _ _ _ (Same.ext sx) hSS;have s_hBB:=BigP.keeps _ _ _ _ _ _ (Same.ext sx) hBB;(go_at_call 210;refine (c_spec_l7Allowed lo hi lo' hi' _ _ s b np _ s_hSS s_hBB HPA.out).mono ?_;rintro e y ⟨vA,rfl,hVA,hb⟩))
  show K _ _
  refine hK.out _ _ (by (have hh:=hHeld;(try dsimp only at hh);exact hh.trans hb)) (fun hHeld=>?_)
  clear hK K
  try simp only [Act.put,aput]
  refine wpAnyH_ready (rs:=[10]) (by kernel_rfl) (by simp) ?_
  refine AllReadyH.cons rfl (fun K hK=>?_) AllReadyH.nil
  (try simp only [aput])
  go_simp
  (go_at_call 209;refine (c_spec_l1Has lo hi _ (allowedL s b np) nc _ (hVA.ext IntP.keeps xw)).mono ?_;rintro e y ⟨rfl,hb⟩;rw [HH.out])
  show K _ _
  refine hK.out _ _ (by (have hh:=hHeld;(try dsimp only at hh);exact hh.trans hb)) (fun hHeld=>?_)
  clear hK K
  try simp only [Act.put,aput]
  refine wpAnyH_done (by kernel_rfl) ?_ _
  all_goals go_wp2
  all_goals have hY:=hHeld
  all_goals have hXY:=hx.trans hY
  all_goals have hsz:=Below.size hXY
  all_goals go_ret
  all_goals exact ⟨_,rfl,by rw [HV.out];exact slv_empty (by decide) (fun h=>by cases h),xw⟩
end Go.Proofs.YtccjepndhlobpaaGreatDoor

/-
  Walks: counts of ports on a link, by the reference.
-/
namespace Go.Proofs.YtccjepndhlobpaaGreatDoor
open Go.RowKit
set_option linter.unusedVariables false
set_option linter.unusedSimpArgs false
def sortOf (s:Srt) (b:Big) (pt:Int × Int):Int:=(s.sorts.getD (ndAt b pt.1).control.toNat []).getD pt.2.toNat 0
def stepC (s:Srt) (b:Big) (c:List Int) (pt:Int × Int):List Int:=c.set (sortOf s b pt).toNat (c.getD (sortOf s b pt).toNat 0+1)
def countsTo (s:Srt) (b:Big) (ps:List (Int × Int)) (j:Nat):List Int:=(ps.take j).foldl (stepC s b) (List.replicate s.most.length 0)
/-- How many ports of each sort a link has. -/
def onL (s:Srt) (b:Big) (l:Int):List Int:=countsTo s b (portsL b l) (portsL b l).length
theorem stepC_len (s:Srt) (b:Big) (c:List Int) (pt:Int × Int):(stepC s b c pt).length=c.length:=by unfold stepC;simp
theorem countsTo_succ (s:Srt) (b:Big) (ps:List (Int × Int)) (j:Nat) (h:j<ps.length):countsTo s b ps (j+1)=stepC s b (countsTo s b ps j) ps[j]:=by
 unfold countsTo;rw [List.take_succ_eq_append_getElem h,List.foldl_append];rfl
theorem countsTo_len (s:Srt) (b:Big) (ps:List (Int × Int)) (j:Nat):(countsTo s b ps j).length=s.most.length:=by
 unfold countsTo
 generalize ps.take j=q
 have:∀(q:List (Int × Int)) (c:List Int),(q.foldl (stepC s b) c).length=c.length:=by
  intro q
  induction q with
  | nil=>intro c;rfl
  | cons x q ih=>intro c;rw [List.foldl_cons,ih,stepC_len]
 rw [this];simp
theorem countsTo_bd (s:Srt) (b:Big) (ps:List (Int × Int)):∀(j:Nat),j≤ps.length→∀x∈countsTo s b ps j,0≤x∧x≤j:=by
 intro j
 induction j with
 | zero=>intro _ x hx;unfold countsTo at hx;simp at hx;obtain ⟨_,rfl⟩:=hx;exact ⟨Int.le_refl _,Int.le_refl _⟩
 | succ j ih=>
  intro hj x hx
  rw [countsTo_succ s b ps j (by omega)] at hx
  unfold stepC at hx
  have ih':=ih (by omega)
  rcases List.mem_or_eq_of_mem_set hx with h|h
  ·have:=ih' x h;omega
  ·subst h
   rw [List.getD_eq_getElem?_getD]
   cases hc:(countsTo s b ps j)[(sortOf s b ps[j]).toNat]? with
   | none=>simp;omega
   | some y=>have:=ih' y (List.mem_of_getElem? hc);simp;omega
def PortOk (s:Srt) (b:Big) (pt:Int × Int):Prop:=∃(i k:Nat) (hi:i<b.nodes.length),pt=((i:Int),(k:Int))∧∃m:Nat,(b.nodes[i]).control=(m:Int)∧∃hm:m<s.sorts.length,∃hk:k<(s.sorts[m]).length,∃q:Nat,(s.sorts[m])[k]=(q:Int)∧q<s.most.length
theorem sortOf_at (s:Srt) (b:Big) (i k m q:Nat) (hi:i<b.nodes.length) (hc:(b.nodes[i]).control=(m:Int)) (hm:m<s.sorts.length) (hk:k<(s.sorts[m]).length) (hq:(s.sorts[m])[k]=(q:Int)):sortOf s b ((i:Int),(k:Int))=q:=by
 unfold sortOf
 dsimp only
 have e1:s.sorts.getD m []=s.sorts[m]:=by rw [List.getD_eq_getElem?_getD,List.getElem?_eq_getElem hm];rfl
 have e2:(s.sorts[m]).getD k 0=(s.sorts[m])[k]:=by rw [List.getD_eq_getElem?_getD,List.getElem?_eq_getElem hk];rfl
 rw [ndAt_nat b i hi,hc,Int.toNat_natCast,Int.toNat_natCast,e1,e2,hq]
theorem made_zero (n:Nat):(madeCells #[.int .i64 0] (n * 1)).toList=(List.replicate n (0:Int)).map (fun x=>Value.int .i64 x):=by
 unfold madeCells
 apply List.ext_getElem
 ·simp
 ·intro i h1 h2
  simp [Nat.mod_one]
def cellsI (c:List Int):List Value:=c.map (fun x=>Value.int .i64 x)
theorem cellsI_set (c:List Int) (q:Nat) (x:Int):(cellsI c).set q (.int .i64 x)=cellsI (c.set q x):=by unfold cellsI;rw [List.map_set]
theorem cellsI_at (c:List Int) (q:Nat) (h:q<c.length):(cellsI c)[q]? = some (.int .i64 c[q]):=by unfold cellsI;simp [List.getElem?_eq_getElem h]
theorem own_ints {w:World} {base lo g cap:Nat} {e:TypeId} {c:List Int} (own:w.ownsRow base e 1 (.slice (some ⟨g,0,none⟩) c.length cap) c.length (cellsI c)) (hlo:lo≤base) (hb:∀x∈c,I64 x):SlV 1 IntP lo w.heap.size w (.slice (some ⟨g,0,none⟩) c.length cap) c:=by
 obtain ⟨a,k,e1,h1,h2,h3,h4⟩:=own_size own
 simp only [Value.slice.injEq] at e1
 obtain ⟨rfl,_,rfl⟩:=e1
 refine ⟨_,_,rfl,h1,h2,h3,?_⟩
 have hl:=own_lt own
 refine .inr ⟨g,0,rfl,by omega,hl.2,fun i hi=>⟨[.int .i64 c[i]],rfl,⟨rfl,hb _ (List.getElem_mem hi)⟩,fun t y ht=>?_⟩⟩
 have:t=0:=by
  cases t with
  | zero=>rfl
  | succ t=>simp at ht
 subst this
 simp at ht
 subst ht
 have:=own_cell own i _ (cellsI_at c i hi)
 simpa using this
theorem grown_cell {w w':World} {g b o:Nat} {v:Value} (hg:w.grownBy w' (some g)) (hc:w.cell? ⟨b,o,none⟩=some v) (hne:b≠g):w'.cell? ⟨b,o,none⟩=some v:=
 (World.cell?_of_block (hg.block b (World.block_lt_of_cell? w ⟨b,o,none⟩ hc) (by simpa using hne))).trans hc
attribute [local irreducible] inR hasI allowedL portsL countsTo sortOf
set_option maxRecDepth 100000 in
set_option maxHeartbeats 3200000 in
theorem c_spec_l7On (lo hi lo' hi':Nat) (cs ds:List Value) (s:Srt) (b:Big) (l:Int) (w:World) (hs:SrtP lo hi w cs s) (h:BigP lo' hi' w ds b) (hlen:b.nodes.length≤1000) (hlinks:∀i (h:i<b.nodes.length),(b.nodes[i]).links.length≤1000) (hml:s.most.length≤1000) (hok:∀j (h:j<(portsL b l).length),PortOk s b (portsL b l)[j]) :
 Calls Tryz.prog 159 #[.agg cs.toArray,.agg ds.toArray,.int .i64 l] w fun e w'=>∃v,e=.returned v∧SlV 1 IntP w.heap.size w'.heap.size w' v (onL s b l)∧Ext w w':=by
 have hBB:=h
 obtain ⟨u0,u1,u2,u3,u4,rfl,hT,hNe,hSo,hM,hA⟩:=hs
 obtain ⟨v1,v2,v4,v5,rfl,r1,r2,hN,hS,hO,hI⟩:=h
 obtain ⟨a1,k1,rfl,g1,g2,g3,g4⟩:=hN
 obtain ⟨c2,l2,rfl,m1,m2,m3,m4⟩:=hSo
 obtain ⟨c3,l3,rfl,o1,o2,o3,_⟩:=hM
 unfold maxLen at g2 m2 o2
 obtain ⟨W0,hW0,hbx,hx0,hz⟩:=box_facts w [u0,u1,.slice c2 s.sorts.length l2,.slice c3 s.most.length l3,u4] 39
 obtain ⟨W1,hW1,hbx1,hx1,hz1⟩:=box_facts W0 [.int .i64 b.roots,.slice a1 b.nodes.length k1,v2,.int .i64 b.edges,v4,v5] 44
 have p2:=hx1.keep (hbx 2 _ rfl).1
 have p3:=hx1.keep (hbx 3 _ rfl).1
 have s0:=(hbx1 0 _ rfl).1
 have s1:=(hbx1 1 _ rfl).1
 have s2:=(hbx1 2 _ rfl).1
 have s3:=(hbx1 3 _ rfl).1
 have s4:=(hbx1 4 _ rfl).1
 have s5:=(hbx1 5 _ rfl).1
 have hzz:w.heap.size<W0.heap.size:=by omega
 have hzz1:W0.heap.size<W1.heap.size:=by omega
 clear hz hz1 hbx hbx1
 have hx:=hx0.trans hx1
 have hszx:=Below.size hx
 replace hBB:=BigP.keeps _ _ _ _ _ _ (Same.ext hx) hBB
 have hpl:=portsTo_len b l b.nodes.length (Nat.le_refl _) hlinks
 have hpl2:(portsL b l).length≤1000000:=by unfold portsL;omega
 obtain ⟨i0,hi0,hz0,hz1,hz2⟩:=info_parts infoInt
 obtain ⟨W2,hmk,own0,gro0⟩:=run_make_full W1 W1.heap.size 23 3 i0 _ 1 Tryz.underlying23 hi0 hz0 hz1 .i64 .i64 s.most.length (by rw [hz2];omega) (by unfold maxLen;omega) (Nat.le_refl _)
 have x2:=ext_none gro0
 have hz':=made_zero s.most.length
 change (madeCells (Value.int .i64 0).cells (s.most.length * 1)).toList=_ at hz'
 rw [hz'] at own0
 clear hz' hi0 hz0 hz1 hz2 gro0
 have t2:=x2.keep p2
 have t3:=x2.keep p3
 have z0:=x2.keep s0
 have z1:=x2.keep s1
 have z2:=x2.keep s2
 have z3:=x2.keep s3
 have z4:=x2.keep s4
 have z5:=x2.keep s5
 have hB2:=BigP.keeps _ _ _ _ _ _ (Same.ext x2) hBB
 go_enter Tryz.func159,Tryz.ntmps159
 go_wp2_with fail
 refine (c_spec_l2Ports lo' hi' [.int .i64 b.roots,.slice a1 b.nodes.length k1,v2,.int .i64 b.edges,v4,v5] b l _ hB2 hlen hlinks).mono ?_
 rintro e y ⟨vp,rfl,hP,hb⟩
 obtain ⟨pa,pk,rfl,y1,y2,y3,y4⟩:=hP
 unfold maxLen at y2
 have hx1y:Ext W1 y:=x2.trans hb
 have own1:y.ownsRow W1.heap.size 3 1 (.slice (some ⟨W1.heap.size,0,none⟩) s.most.length s.most.length) s.most.length (cellsI (countsTo s b (portsL b l) 0)):=by
  have:=ownsRow_ext own0 hb
  rw [show countsTo s b (portsL b l) 0=List.replicate s.most.length 0 by unfold countsTo;rfl]
  exact this
 have hsz2:=own_lt own0
 clear own0 hmk
 go_wp2
 go_loopw [9,10] (fun c _ wr=>∃j:Nat,c=.int .i64 j∧j≤(portsL b l).length∧wr.ownsRow W1.heap.size 3 1 (.slice (some ⟨W1.heap.size,0,none⟩) s.most.length s.most.length) s.most.length (cellsI (countsTo s b (portsL b l) j))∧y.grownBy wr (some W1.heap.size)) (fun c _ _=>(portsL b l).length - (intOf c).toNat)
 case atStart=>exact ⟨0,rfl,Nat.zero_le _,own1,grownBy_refl _ _⟩
 case round=>
  obtain ⟨j,rfl,hj0,own,hgr⟩:=hrel
  have hx1w:Ext W1 wr:=hx1y.own hgr (fun g hg=>by cases hg;exact Nat.le_refl _)
  have hX:Ext w wr:=hx.trans hx1w
  have n2:=hx1w.keep p2
  have n3:=hx1w.keep p3
  have n4:=hx1w.keep s1
  by_cases hjl:j<(portsL b l).length
  ·have HCS:=Lib.hid (countsTo_succ s b (portsL b l) j hjl)
   have hcl:=countsTo_len s b (portsL b l) j
   have hcb:=countsTo_bd s b (portsL b l) j hj0
   obtain ⟨i,k,hi,hpt,m,hcm,hm,hk,q,hq,hqm⟩:=hok j hjl
   have HSO:=Lib.hid (sortOf_at s b i k m q hi hcm hm hk hq)
   rcases y4 with y4|⟨bp,op,rfl,yb1,yb2,y4⟩
   ·rw [y4] at hjl;simp at hjl
   obtain ⟨es,el,⟨rfl,f1,f2⟩,hes⟩:=y4 j hjl
   have r0:=grown_cell hgr (hes 0 _ rfl) (by omega)
   have r1:=grown_cell hgr (hes 1 _ rfl) (by omega)
   rw [Nat.add_zero] at r0
   have HPT:=Lib.hid hpt
   rw [hpt] at r0 r1
   dsimp only at r0 r1
   rcases g4 with g4|⟨b1,o1',rfl,gb1,gb2,g4⟩
   ·rw [g4] at hi;simp at hi
   obtain ⟨ns,nl,⟨nv,rfl,e1,e2,e3⟩,hns⟩:=g4 i hi
   have q0:=hX.keep (hns 0 _ rfl)
   rw [Nat.add_zero,hcm] at q0
   rcases m4 with m4|⟨b2,o2',rfl,mb1,mb2,m4⟩
   ·rw [m4] at hm;simp at hm
   obtain ⟨ts,tl,⟨tv,rfl,hTV⟩,hts⟩:=m4 m hm
   obtain ⟨ta,tk,rfl,w1,w2,w3,w4⟩:=hTV
   have t0:=hX.keep (hts 0 _ rfl)
   rw [Nat.mul_one,Nat.add_zero] at t0
   rcases w4 with w4|⟨b3,o3',rfl,wb1,wb2,w4⟩
   ·rw [w4] at hk;simp at hk
   obtain ⟨zs,zl,⟨rfl,zz⟩,hzs⟩:=w4 k hk
   have t1:=hX.keep (hzs 0 _ rfl)
   rw [Nat.mul_one,Nat.add_zero,hq] at t1
   clear hes y4 hns g4 hts m4 hzs w4 hpt hcm hq
   unfold maxLen at w2
   have ji0:(0:Int)≤(i:Int):=by omega
   have ji1:(i:Int)<(b.nodes.length:Int):=by omega
   have jj0:(0:Int)≤(j:Int):=by omega
   have jj1:(j:Int)<((portsL b l).length:Int):=by omega
   have jm0:(0:Int)≤(m:Int):=by omega
   have jm1:(m:Int)<(s.sorts.length:Int):=by omega
   have jk0:(0:Int)≤(k:Int):=by omega
   have jk1:(k:Int)<((s.sorts[m]).length:Int):=by omega
   have jq0:(0:Int)≤(q:Int):=by omega
   have jq1:(q:Int)<(s.most.length:Int):=by omega
   go_wp2_with fail
   refine wp_region_held_drew (S:=(fun w'=>Ext wr w')) (by kernel_rfl) ?_ (fun hHeld=>?_)
   ·refine xw
   refine tkP 0 ?_ ?_ ?_;rotate_left;focus (intro w;go_simp;try with_reducible rfl)
   try simp only [Act.put,aput]
   refine tkY 1 ?_ ?_ ?_;rotate_left;focus (intro w hSw;(try dsimp only at hSw);have sx:=hSw;have s_n2:=Ext.keep sx n2;have s_n4:=Ext.keep sx n4;have s_r0:=Ext.keep sx r0;have s_r1:=Ext.keep sx r1;have s_q0:=Ext.keep sx q0;have s_t0:=Ext.keep sx t0;have s_t1:=Ext.keep sx t1;go_simp;try with_reducible rfl)
   try simp only [Act.put,aput]
   refine tkP 2 ?_ ?_ ?_;rotate_left;focus (intro w;go_simp;try with_reducible rfl)
   try simp only [Act.put,aput]
   refine tkY 3 ?_ ?_ ?_;rotate_left;focus (intro w hSw;(try dsimp only at hSw);have sx:=hSw;have s_n2:=Ext.keep sx n2;have s_n4:=Ext.keep sx n4;have s_r0:=Ext.keep sx r0;have s_r1:=Ext.keep sx r1;have s_q0:=Ext.keep sx q0;have s_t0:=Ext.keep sx t0;have s_t1:=Ext.keep sx t1;go_simp;try with_reducible rfl)
   try simp only [Act.put,aput]
   refine tkP 4 ?_ ?_ ?_;rotate_left;focus (intro w;go_simp;try with_reducible rfl)
   try simp only [Act.put,aput]
   refine tkP 5 ?_ ?_ ?_;rotate_left;focus (intro w;go_simp;try with_reducible rfl)
   try simp only [Act.put,aput]
   refine tkP 6 ?_ ?_ ?_;rotate_left;focus (intro w;go_simp;try with_reducible rfl)
   try simp only [Act.put,aput]
   refine tkP 7 ?_ ?_ ?_;rotate_left;focus (intro w;go_simp;try with_reducible rfl)
   try simp only [Act.put,aput]
   refine tkY 8 ?_ ?_ ?_;rotate_left;focus (intro w hSw;(try dsimp only at hSw);have sx:=hSw;have s_n2:=Ext.keep sx n2;have s_n4:=Ext.keep sx n4;have s_r0:=Ext.keep sx r0;have s_r1:=Ext.keep sx r1;have s_q0:=Ext.keep sx q0;have s_t0:=Ext.keep sx t0;have s_t1:=Ext.keep sx t1;go_simp;try with_reducible rfl)
   try simp only [Act.put,aput]
   refine tkP 9 ?_ ?_ ?_;rotate_left;focus (intro w;go_simp;try with_reducible rfl)
   try simp only [Act.put,aput]
   refine tkP 10 ?_ ?_ ?_;rotate_left;focus (intro w;go_simp;try with_reducible rfl)
   try simp only [Act.put,aput]
   refine tkY 11 ?_ ?_ ?_;rotate_left;focus (intro w hSw;(try dsimp only at hSw);have sx:=hSw;have s_n2:=Ext.keep sx n2;have s_n4:=Ext.keep sx n4;have s_r0:=Ext.keep sx r0;have s_r1:=Ext.keep sx r1;have s_q0:=Ext.keep sx q0;have s_t0:=Ext.keep sx t0;have s_t1:=Ext.keep sx t1;go_simp;try with_reducible rfl)
   try simp only [Act.put,aput]
   refine tkP 12 ?_ ?_ ?_;rotate_left;focus (intro w;go_simp;try with_reducible rfl)
   try simp only [Act.put,aput]
   refine tkY 13 ?_ ?_ ?_;rotate_left;focus (intro w hSw;(try dsimp only at hSw);have sx:=hSw;have s_n2:=Ext.keep sx n2;have s_n4:=Ext.keep sx n4;have s_r0:=Ext.keep sx r0;have s_r1:=Ext.keep sx r1;have s_q0:=Ext.keep sx q0;have s_t0:=Ext.keep sx t0;have s_t1:=Ext.keep sx t1;go_simp;try with_reducible rfl)
   try simp only [Act.put,aput]
   refine tkP 14 ?_ ?_ ?_;rotate_left;focus (intro w;go_simp;try with_reducible rfl)
   try simp only [Act.put,aput]
   refine tkP 15 ?_ ?_ ?_;rotate_left;focus (intro w;go_simp;try with_reducible rfl)
   try simp only [Act.put,aput]
   refine tkP 16 ?_ ?_ ?_;rotate_left;focus (intro w;go_simp;try with_reducible rfl)
   try simp only [Act.put,aput]
   refine tkP 17 ?_ ?_ ?_;rotate_left;focus (intro w;go_simp;try with_reducible rfl)
   try simp only [Act.put,aput]
   refine tkY 18 ?_ ?_ ?_;rotate_left;focus (intro w hSw;(try dsimp only at hSw);have sx:=hSw;have s_n2:=Ext.keep sx n2;have s_n4:=Ext.keep sx n4;have s_r0:=Ext.keep sx r0;have s_r1:=Ext.keep sx r1;have s_q0:=Ext.keep sx q0;have s_t0:=Ext.keep sx t0;have s_t1:=Ext.keep sx t1;go_simp;try with_reducible rfl)
   try simp only [Act.put,aput]
   refine tkP 19 ?_ ?_ ?_;rotate_left;focus (intro w;go_simp;try with_reducible rfl)
   try simp only [Act.put,aput]
   refine tkY 20 ?_ ?_ ?_;rotate_left;focus (intro w hSw;(try dsimp only at hSw);have sx:=hSw;have s_n2:=Ext.keep sx n2;have s_n4:=Ext.keep sx n4;have s_r0:=Ext.keep sx r0;have s_r1:=Ext.keep sx r1;have s_q0:=Ext.keep sx q0;have s_t0:=Ext.keep sx t0;have s_t1:=Ext.keep sx t1;go_simp;try with_reducible rfl)
   try simp only [Act.put,aput]
   refine tkP 21 ?_ ?_ ?_;rotate_left;focus (intro w;go_simp;try with_reducible rfl)
   try simp only [Act.put,aput]
   refine wpAnyH_done (by kernel_rfl) ?_ _
   have hqc:q<(countsTo s b (portsL b l) j).length:=by omega
   have own2:=ownsRow_ext own hHeld
   have oc:=own_cell own2 q _ (cellsI_at _ q hqc)
   have of:=own2.frozenAt q
   have hbd:=hcb _ (List.getElem_mem hqc)
   have hst:=own2.stored q (.int .i64 ((countsTo s b (portsL b l) j)[q]+1))
   have HNX:=Lib.hid (show countsTo s b (portsL b l) (j+1)=(countsTo s b (portsL b l) j).set q ((countsTo s b (portsL b l) j)[q]+1) by
    rw [HCS.out];unfold stepC;rw [HPT.out,HSO.out,Int.toNat_natCast]
    congr 2
    rw [List.getD_eq_getElem?_getD,List.getElem?_eq_getElem hqc];rfl)
   rw [cellsI_set,← HNX.out] at hst
   have hg2:=grownBy_trans hgr (grownBy_trans (grownBy_ext hHeld) hst.2)
   have hw1:=hst.1
   clear hst own2 own
   generalize (countsTo s b (portsL b l) j)[q]=cq at oc hbd hw1 hg2
   go_wp2
   go_roundw
   case rel=>exact ⟨j+1,rfl,by omega,hw1,hg2⟩
   ·simp only [intOf];omega
  ·have hje:j=(portsL b l).length:=by omega
   subst hje
   have hcl:=countsTo_len s b (portsL b l) (portsL b l).length
   have hcb:=countsTo_bd s b (portsL b l) _ (Nat.le_refl _)
   have HO:Hid (onL s b l=countsTo s b (portsL b l) (portsL b l).length):=Lib.hid rfl
   have hfin:=own_ints (lo:=w.heap.size) (c:=countsTo s b (portsL b l) (portsL b l).length) (by rw [hcl];exact own) hszx (fun x hx=>by have:=hcb x hx;unfold I64;omega)
   rw [hcl,← HO.out] at hfin
   clear hcb own
   go_wp2
   go_ret
   exact ⟨_,rfl,hfin,hX⟩
end Go.Proofs.YtccjepndhlobpaaGreatDoor

/-
  Walks: faults of a link, by the reference.
-/
namespace Go.Proofs.YtccjepndhlobpaaGreatDoor
open Go.RowKit
set_option linter.unusedVariables false
set_option linter.unusedSimpArgs false
def manyF (s:Srt) (c:List Int) (k:Nat):Bool:=decide (s.most.getD k 0<c.getD k 0)
def apartF (s:Srt) (c:List Int) (i:Nat):Bool:=match s.apart[i]? with|none=>false|some p=>decide (0<c.getD p.1.toNat 0) && decide (0<c.getD p.2.toNat 0)
def fltTo (kind link:Int) (f:Nat→Bool) (n:Nat):List Flt:=((List.range n).filter f).map (fun (k:Nat)=>(kind,link,(k:Int)))
/-- The faults of a link. -/
def sharedL (s:Srt) (link:Int) (c:List Int):List Flt:=fltTo 3 link (manyF s c) c.length++fltTo 4 link (apartF s c) s.apart.length
theorem fltTo_yes {kind link:Int} {f:Nat→Bool} {n:Nat} (h:f n=true):fltTo kind link f (n+1)=fltTo kind link f n++[(kind,link,(n:Int))]:=by
 unfold fltTo;rw [List.range_succ,List.filter_append,List.map_append];simp [h]
theorem fltTo_no {kind link:Int} {f:Nat→Bool} {n:Nat} (h:f n=false):fltTo kind link f (n+1)=fltTo kind link f n:=by
 unfold fltTo;rw [List.range_succ,List.filter_append,List.map_append];simp [h]
theorem fltTo_len (kind link:Int) (f:Nat→Bool) (n:Nat):(fltTo kind link f n).length≤n:=by
 unfold fltTo;rw [List.length_map];have:=List.length_filter_le f (List.range n);simpa using this
theorem manyF_at (s:Srt) (c:List Int) (k:Nat) (h1:k<s.most.length) (h2:k<c.length):manyF s c k=decide (s.most[k]<c[k]):=by
 unfold manyF
 rw [List.getD_eq_getElem?_getD,List.getD_eq_getElem?_getD,List.getElem?_eq_getElem h1,List.getElem?_eq_getElem h2];rfl
theorem apartF_at (s:Srt) (c:List Int) (i x y:Nat) (hi:i<s.apart.length) (hx:(s.apart[i]).1=(x:Int)) (hy:(s.apart[i]).2=(y:Int)) (h1:x<c.length) (h2:y<c.length):apartF s c i=(decide (0<c[x]) && decide (0<c[y])):=by
 unfold apartF
 rw [List.getElem?_eq_getElem hi]
 simp only [hx,hy,Int.toNat_natCast]
 rw [List.getD_eq_getElem?_getD,List.getD_eq_getElem?_getD,List.getElem?_eq_getElem h1,List.getElem?_eq_getElem h2];rfl
theorem infoFlt:∃i,Tryz.prog.info? 154=some i∧i.zero=some (.agg #[.int .i64 0,.int .i64 0,.int .i64 0])∧i.size=3∧i.bytes=24:=info_parts (by kernel_rfl)
theorem i64_lit3:I64 3:=by unfold I64;omega
theorem i64_lit4:I64 4:=by unfold I64;omega
attribute [local irreducible] inR hasI allowedL portsL countsTo sortOf manyF apartF
set_option maxRecDepth 100000 in
set_option maxHeartbeats 3200000 in
theorem c_spec_l7Shared (lo hi lo' hi':Nat) (cs:List Value) (s:Srt) (v:Value) (c:List Int) (l:Int) (w:World) (hs:SrtP lo hi w cs s) (h:IntsV lo' hi' w v c) (hl:I64 l) (hlen:c.length=s.most.length) (hml:s.most.length≤1000) (hal:s.apart.length≤1048576) (hap:∀i (h:i<s.apart.length),0≤(s.apart[i]).1∧(s.apart[i]).1<c.length∧0≤(s.apart[i]).2∧(s.apart[i]).2<c.length) :
 Calls Tryz.prog 158 #[.agg cs.toArray,.int .i64 l,v] w fun e w'=>∃v',e=.returned v'∧SlV 3 FltP w.heap.size w'.heap.size w' v' (sharedL s l c)∧Ext w w':=by
 obtain ⟨u0,u1,u2,u3,u4,rfl,hT,hNe,hSo,hM,hA⟩:=hs
 obtain ⟨a3,k3,rfl,o1,o2,o3,o4⟩:=hM
 obtain ⟨a4,k4,rfl,l1,l2,l3,l4⟩:=hA
 obtain ⟨ca,ck,rfl,c1,c2,c3,c4⟩:=h
 unfold maxLen at o2 l2 c2
 have hlen1:c.length≤s.most.length:=by omega
 have hlen2:s.most.length≤c.length:=by omega
 clear hlen
 obtain ⟨i0,hi0,hz0,hz1,hz2⟩:=infoFlt
 obtain ⟨W0,hW0,hbx,hx0,hz⟩:=box_facts w [u0,u1,u2,.slice a3 s.most.length k3,.slice a4 s.apart.length k4] 39
 have p3:=(hbx 3 _ rfl).1
 have p4:=(hbx 4 _ rfl).1
 have hzz:w.heap.size<W0.heap.size:=by omega
 clear hz hbx
 have hrow0:RowL 3 FltP 154 W0.heap.size (W0.alloc (.cells #[] 154)) (.slice (some ⟨W0.heap.size,0,none⟩) 0 0) []:=RowL.made (Nat.le_refl _)
 go_enter Tryz.func158,Tryz.ntmps158
 go_wp2
 go_loopw [7,8] (fun v k wr=>∃i:Nat,k=.int .i64 i∧i≤c.length∧RowL 3 FltP 154 W0.heap.size wr v (fltTo 3 l (manyF s c) i)∧Ext W0 wr) (fun _ k _=>c.length - (intOf k).toNat)
 case atStart=>exact ⟨0,rfl,Nat.zero_le _,hrow0,xw⟩
 case round=>
  obtain ⟨i,rfl,hi',hrow,hx⟩:=hrel
  have n3:=hx.keep p3
  have n4:=hx.keep p4
  have hX:Ext w wr:=hx0.trans hx
  by_cases hlt:i<c.length
  ·have hlt2:i<s.most.length:=by omega
   have HF:=Lib.hid (manyF_at s c i hlt2 hlt)
   rcases c4 with c4|⟨bc,oc,rfl,cb1,cb2,c4⟩
   ·rw [c4] at hlt;simp at hlt
   obtain ⟨es,el,⟨rfl,f1⟩,hes⟩:=c4 i hlt
   have q0:=hX.keep (hes 0 _ rfl)
   rw [Nat.mul_one,Nat.add_zero] at q0
   rcases o4 with o4|⟨bo,oo,rfl,ob1,ob2,o4⟩
   ·rw [o4] at hlt2;simp at hlt2
   obtain ⟨ms,mlen,⟨rfl,f2⟩,hms⟩:=o4 i hlt2
   have r0:=hX.keep (hms 0 _ rfl)
   rw [Nat.mul_one,Nat.add_zero] at r0
   clear hes hms c4 o4
   have hsz:=Below.size hx
   have hL:=fltTo_len 3 l (manyF s c) i
   have ji0:(0:Int)≤(i:Int):=by omega
   have ji1:(i:Int)<(c.length:Int):=by omega
   have ji2:(i:Int)<(s.most.length:Int):=by omega
   by_cases hp:s.most[i]<c[i]
   ·have hd:decide (s.most[i]<c[i])=true:=decide_eq_true hp
    have HT:=Lib.hid (fltTo_yes (kind:=3) (link:=l) (f:=manyF s c) (n:=i) (by rw [HF.out];exact hd))
    go_wp2_with fail
    refine wp_region_held_drew (S:=(fun w'=>Ext wr w')) (by kernel_rfl) ?_ (fun hHeld=>?_)
    ·refine xw
    refine tkP 0 ?_ ?_ ?_;rotate_left;focus (intro w;go_simp;try with_reducible rfl)
    try simp only [Act.put,aput]
    refine tkP 1 ?_ ?_ ?_;rotate_left;focus (intro w;go_simp;try with_reducible rfl)
    try simp only [Act.put,aput]
    refine tkP 2 ?_ ?_ ?_;rotate_left;focus (intro w;go_simp;try with_reducible rfl)
    try simp only [Act.put,aput]
    refine tkY 3 ?_ ?_ ?_;rotate_left;focus (intro w hSw;(try dsimp only at hSw);have sx:=hSw;have s_n3:=Ext.keep sx n3;have s_q0:=Ext.keep sx q0;have s_r0:=Ext.keep sx r0;go_simp;try with_reducible rfl)
    try simp only [Act.put,aput]
    refine tkP 4 ?_ ?_ ?_;rotate_left;focus (intro w;go_simp;try with_reducible rfl)
    try simp only [Act.put,aput]
    refine tkY 5 ?_ ?_ ?_;rotate_left;focus (intro w hSw;(try dsimp only at hSw);have sx:=hSw;have s_n3:=Ext.keep sx n3;have s_q0:=Ext.keep sx q0;have s_r0:=Ext.keep sx r0;go_simp;try with_reducible rfl)
    try simp only [Act.put,aput]
    refine tkP 6 ?_ ?_ ?_;rotate_left;focus (intro w;go_simp;try with_reducible rfl)
    try simp only [Act.put,aput]
    refine tkP 7 ?_ ?_ ?_;rotate_left;focus (intro w;go_simp;try with_reducible rfl)
    try simp only [Act.put,aput]
    refine tkY 8 ?_ ?_ ?_;rotate_left;focus (intro w hSw;(try dsimp only at hSw);have sx:=hSw;have s_n3:=Ext.keep sx n3;have s_q0:=Ext.keep sx q0;have s_r0:=Ext.keep sx r0;go_simp;try with_reducible rfl)
    try simp only [Act.put,aput]
    refine tkP 9 ?_ ?_ ?_;rotate_left;focus (intro w;go_simp;try with_reducible rfl)
    try simp only [Act.put,aput]
    refine wpAnyH_done (by kernel_rfl) ?_ _
    go_wp2_with (at_builtin;refine wpList_append_row2 FltP.keeps rfl (.tmp 27) (.tmp 31) 138 rfl (W0.heap.size) 154 i0 _ 24 Tryz.underlying138 hi0 hz0 hz1 hz2 rfl (by decide) _ _ (by rfl) (hrow.ext FltP.keeps xw) ⟨wr.heap.size,0,none⟩ 1 [.int .i64 3,.int .i64 l,.int .i64 i] rfl rfl (one_cell (by simp)) (by simp [Value.oneCell']) (W0.heap.size) (W0.heap.size) (Nat.le_refl _) (by first|omega|(simp;omega)) (fun g hg=>.inr (hrow.block g hg).1) (((3,l,(i:Int)):Flt)) ⟨rfl,i64_lit3,hl,i64_nat (by omega)⟩ (by first|omega|(simp;omega)) (by decide) (by first|omega|(simp;omega)) ?_;intro v3 w3 row3 ext3 gro3 own3)
    have hx3:=ext3 W0 xw (Nat.le_refl _)
    go_roundw
    case rel=>exact ⟨i+1,rfl,by omega,by rw [HT.out];exact row3,xw⟩
    ·simp only [intOf];omega
   ·have hd:decide (s.most[i]<c[i])=false:=decide_eq_false hp
    have HT:=Lib.hid (fltTo_no (kind:=3) (link:=l) (f:=manyF s c) (n:=i) (by rw [HF.out];exact hd))
    go_wp2_with fail
    refine wp_region_held_drew (S:=(fun w'=>Ext wr w')) (by kernel_rfl) ?_ (fun hHeld=>?_)
    ·refine xw
    refine tkP 0 ?_ ?_ ?_;rotate_left;focus (intro w;go_simp;try with_reducible rfl)
    try simp only [Act.put,aput]
    refine tkP 1 ?_ ?_ ?_;rotate_left;focus (intro w;go_simp;try with_reducible rfl)
    try simp only [Act.put,aput]
    refine tkP 2 ?_ ?_ ?_;rotate_left;focus (intro w;go_simp;try with_reducible rfl)
    try simp only [Act.put,aput]
    refine tkY 3 ?_ ?_ ?_;rotate_left;focus (intro w hSw;(try dsimp only at hSw);have sx:=hSw;have s_n3:=Ext.keep sx n3;have s_q0:=Ext.keep sx q0;have s_r0:=Ext.keep sx r0;go_simp;try with_reducible rfl)
    try simp only [Act.put,aput]
    refine tkP 4 ?_ ?_ ?_;rotate_left;focus (intro w;go_simp;try with_reducible rfl)
    try simp only [Act.put,aput]
    refine tkY 5 ?_ ?_ ?_;rotate_left;focus (intro w hSw;(try dsimp only at hSw);have sx:=hSw;have s_n3:=Ext.keep sx n3;have s_q0:=Ext.keep sx q0;have s_r0:=Ext.keep sx r0;go_simp;try with_reducible rfl)
    try simp only [Act.put,aput]
    refine tkP 6 ?_ ?_ ?_;rotate_left;focus (intro w;go_simp;try with_reducible rfl)
    try simp only [Act.put,aput]
    refine tkP 7 ?_ ?_ ?_;rotate_left;focus (intro w;go_simp;try with_reducible rfl)
    try simp only [Act.put,aput]
    refine tkY 8 ?_ ?_ ?_;rotate_left;focus (intro w hSw;(try dsimp only at hSw);have sx:=hSw;have s_n3:=Ext.keep sx n3;have s_q0:=Ext.keep sx q0;have s_r0:=Ext.keep sx r0;go_simp;try with_reducible rfl)
    try simp only [Act.put,aput]
    refine tkP 9 ?_ ?_ ?_;rotate_left;focus (intro w;go_simp;try with_reducible rfl)
    try simp only [Act.put,aput]
    refine wpAnyH_done (by kernel_rfl) ?_ _
    all_goals go_wp2
    all_goals go_roundw
    case rel=>exact ⟨i+1,rfl,by omega,by rw [HT.out];exact hrow.ext FltP.keeps xw,xw⟩
    all_goals (simp only [intOf];omega)
  ·have e:i=c.length:=by omega
   subst e
   have HR:=Lib.hid hrow
   clear hrow0
   go_wp2
   go_loopw [7,9] (fun v k wr=>∃i:Nat,k=.int .i64 i∧i≤s.apart.length∧RowL 3 FltP 154 W0.heap.size wr v (fltTo 3 l (manyF s c) c.length++fltTo 4 l (apartF s c) i)∧Ext W0 wr) (fun _ k _=>s.apart.length - (intOf k).toNat)
   case atStart=>exact ⟨0,rfl,Nat.zero_le _,by simpa [fltTo] using hrow,xw⟩
   case round=>
    obtain ⟨i,rfl,hi',hrow,hx⟩:=hrel
    have n3:=hx.keep p3
    have n4:=hx.keep p4
    have hX:Ext w wr:=hx0.trans hx
    by_cases hlt:i<s.apart.length
    ·obtain ⟨hx0',hx1',hy0',hy1'⟩:=hap i hlt
     have HFA:=Lib.hid (apartF_at s c i)
     rcases l4 with l4|⟨bl,ol,rfl,lb1,lb2,l4⟩
     ·rw [l4] at hlt;simp at hlt
     obtain ⟨es,el,hpp,hes⟩:=l4 i hlt
     obtain ⟨x,hxx⟩:=Int.eq_ofNat_of_zero_le hx0'
     obtain ⟨y,hyy⟩:=Int.eq_ofNat_of_zero_le hy0'
     have hxl:x<c.length:=by omega
     have hyl:y<c.length:=by omega
     obtain ⟨rfl,f1,f2⟩:=hpp
     have q0:=hX.keep (hes 0 _ rfl)
     have q1:=hX.keep (hes 1 _ rfl)
     rw [Nat.add_zero,hxx] at q0
     rw [hyy] at q1
     rcases c4 with c4|⟨bc,oc,rfl,cb1,cb2,c4⟩
     ·rw [c4] at hxl;simp at hxl
     obtain ⟨xs,xl,⟨rfl,g1⟩,hxs⟩:=c4 x hxl
     have r0:=hX.keep (hxs 0 _ rfl)
     rw [Nat.mul_one,Nat.add_zero] at r0
     obtain ⟨ys,yl,⟨rfl,g2⟩,hys⟩:=c4 y hyl
     have r1:=hX.keep (hys 0 _ rfl)
     rw [Nat.mul_one,Nat.add_zero] at r1
     have HF:=Lib.hid (HFA.out x y hlt hxx hyy hxl hyl)
     clear hes hxs hys c4 l4 hxx hyy hx0' hx1' hy0' hy1'
     have hsz:=Below.size hx
     have hL:=fltTo_len 4 l (apartF s c) i
     have hL3:=fltTo_len 3 l (manyF s c) c.length
     have hLL:(fltTo 3 l (manyF s c) c.length++fltTo 4 l (apartF s c) i).length=(fltTo 3 l (manyF s c) c.length).length+(fltTo 4 l (apartF s c) i).length:=List.length_append
     have hL2:(fltTo 3 l (manyF s c) c.length++fltTo 4 l (apartF s c) i).length≤3000000:=by omega
     clear hLL
     generalize c[x]=cx at r0 HF
     generalize c[y]=cy at r1 HF
     by_cases hp:0<cx
     ·have hd:decide (0<cx)=true:=decide_eq_true hp
      by_cases hp2:0<cy
      ·have hd2:decide (0<cy)=true:=decide_eq_true hp2
       have HT:=Lib.hid (fltTo_yes (kind:=4) (link:=l) (f:=apartF s c) (n:=i) (by rw [HF.out,hd,hd2];rfl))
       go_wp2_with (at_builtin;refine wpList_append_row2 FltP.keeps rfl (.tmp 62) (.tmp 66) 138 rfl (W0.heap.size) 154 i0 _ 24 Tryz.underlying138 hi0 hz0 hz1 hz2 rfl (by decide) _ _ (by rfl) (hrow.ext FltP.keeps xw) ⟨wr.heap.size,0,none⟩ 1 [.int .i64 4,.int .i64 l,.int .i64 i] rfl rfl (one_cell (by simp)) (by simp [Value.oneCell']) (W0.heap.size) (W0.heap.size) (Nat.le_refl _) (by first|omega|(simp;omega)) (fun g hg=>.inr (hrow.block g hg).1) (((4,l,(i:Int)):Flt)) ⟨rfl,i64_lit4,hl,i64_nat (by omega)⟩ (by first|omega|(simp;omega)) (by decide) (by first|omega|(simp;omega)) ?_;intro v3 w3 row3 ext3 gro3 own3)
       have hx3:=ext3 W0 xw (Nat.le_refl _)
       go_roundw
       case rel=>exact ⟨i+1,rfl,by omega,by rw [HT.out,← List.append_assoc];exact row3,xw⟩
       ·simp only [intOf];omega
      ·have hd2:decide (0<cy)=false:=decide_eq_false hp2
       have HT:=Lib.hid (fltTo_no (kind:=4) (link:=l) (f:=apartF s c) (n:=i) (by rw [HF.out,hd,hd2];rfl))
       go_wp2
       go_roundw
       case rel=>exact ⟨i+1,rfl,by omega,by rw [HT.out];exact hrow,xw⟩
       ·simp only [intOf];omega
     ·have hd:decide (0<cx)=false:=decide_eq_false hp
      have HT:=Lib.hid (fltTo_no (kind:=4) (link:=l) (f:=apartF s c) (n:=i) (by rw [HF.out,hd];rfl))
      go_wp2
      go_roundw
      case rel=>exact ⟨i+1,rfl,by omega,by rw [HT.out];exact hrow,xw⟩
      ·simp only [intOf];omega
    ·have e:i=s.apart.length:=by omega
     subst e
     go_wp2
     go_ret
     exact ⟨_,rfl,hrow.toSlV FltP.widens (by omega),hX⟩
end Go.Proofs.YtccjepndhlobpaaGreatDoor

/-
  Walks: faults of a link, by the program.
-/
namespace Go.Proofs.YtccjepndhlobpaaGreatDoor
open Go.RowKit
set_option linter.unusedVariables false
set_option linter.unusedSimpArgs false
attribute [local irreducible] inR hasI allowedL portsL countsTo sortOf manyF apartF
set_option maxRecDepth 100000 in
set_option maxHeartbeats 3200000 in
theorem c_impl_Sorting_linkFaults (lo hi lo' hi':Nat) (cs:List Value) (s:Srt) (v:Value) (c:List Int) (l:Int) (w:World) (hs:SrtP lo hi w cs s) (h:IntsV lo' hi' w v c) (hl:I64 l) (hlen:c.length=s.most.length) (hml:s.most.length≤1000) (hal:s.apart.length≤1048576) (hap:∀i (h:i<s.apart.length),0≤(s.apart[i]).1∧(s.apart[i]).1<c.length∧0≤(s.apart[i]).2∧(s.apart[i]).2<c.length) :
 Calls Tryz.prog 189 #[.agg cs.toArray,.int .i64 l,v] w fun e w'=>∃v',e=.returned v'∧SlV 3 FltP w.heap.size w'.heap.size w' v' (sharedL s l c)∧Ext w w':=by
 obtain ⟨u0,u1,u2,u3,u4,rfl,hT,hNe,hSo,hM,hA⟩:=hs
 obtain ⟨a3,k3,rfl,o1,o2,o3,o4⟩:=hM
 obtain ⟨a4,k4,rfl,l1,l2,l3,l4⟩:=hA
 obtain ⟨ca,ck,rfl,c1,c2,c3,c4⟩:=h
 unfold maxLen at o2 l2 c2
 have hlen1:c.length≤s.most.length:=by omega
 have hlen2:s.most.length≤c.length:=by omega
 clear hlen
 obtain ⟨i0,hi0,hz0,hz1,hz2⟩:=infoFlt
 obtain ⟨W0,hW0,hbx,hx0,hz⟩:=box_facts w [u0,u1,u2,.slice a3 s.most.length k3,.slice a4 s.apart.length k4] 39
 have p3:=(hbx 3 _ rfl).1
 have p4:=(hbx 4 _ rfl).1
 have hzz:w.heap.size<W0.heap.size:=by omega
 clear hz hbx
 have hrow0:RowL 3 FltP 154 W0.heap.size (W0.alloc (.cells #[] 154)) (.slice (some ⟨W0.heap.size,0,none⟩) 0 0) []:=RowL.made (Nat.le_refl _)
 go_enter Tryz.func189,Tryz.ntmps189
 go_wp2
 go_loopw [15,7] (fun k v wr=>∃i:Nat,k=.int .i64 i∧i≤c.length∧RowL 3 FltP 154 W0.heap.size wr v (fltTo 3 l (manyF s c) i)∧Ext W0 wr) (fun k _ _=>c.length - (intOf k).toNat)
 case atStart=>exact ⟨0,rfl,Nat.zero_le _,hrow0,xw⟩
 case round=>
  obtain ⟨i,rfl,hi',hrow,hx⟩:=hrel
  have n3:=hx.keep p3
  have n4:=hx.keep p4
  have hX:Ext w wr:=hx0.trans hx
  by_cases hlt:i<c.length
  ·have hlt2:i<s.most.length:=by omega
   have HF:=Lib.hid (manyF_at s c i hlt2 hlt)
   rcases c4 with c4|⟨bc,oc,rfl,cb1,cb2,c4⟩
   ·rw [c4] at hlt;simp at hlt
   obtain ⟨es,el,⟨rfl,f1⟩,hes⟩:=c4 i hlt
   have q0:=hX.keep (hes 0 _ rfl)
   rw [Nat.mul_one,Nat.add_zero] at q0
   rcases o4 with o4|⟨bo,oo,rfl,ob1,ob2,o4⟩
   ·rw [o4] at hlt2;simp at hlt2
   obtain ⟨ms,mlen,⟨rfl,f2⟩,hms⟩:=o4 i hlt2
   have r0:=hX.keep (hms 0 _ rfl)
   rw [Nat.mul_one,Nat.add_zero] at r0
   clear hes hms c4 o4
   have hsz:=Below.size hx
   have hL:=fltTo_len 3 l (manyF s c) i
   have ji0:(0:Int)≤(i:Int):=by omega
   have ji1:(i:Int)<(c.length:Int):=by omega
   have ji2:(i:Int)<(s.most.length:Int):=by omega
   by_cases hp:s.most[i]<c[i]
   ·have hd:decide (s.most[i]<c[i])=true:=decide_eq_true hp
    have HT:=Lib.hid (fltTo_yes (kind:=3) (link:=l) (f:=manyF s c) (n:=i) (by rw [HF.out];exact hd))
    go_wp2_with (at_builtin;refine wpList_append_row2 FltP.keeps rfl (.tmp 27) (.tmp 31) 138 rfl (W0.heap.size) 154 i0 _ 24 Tryz.underlying138 hi0 hz0 hz1 hz2 rfl (by decide) _ _ (by rfl) (hrow.ext FltP.keeps xw) ⟨wr.heap.size,0,none⟩ 1 [.int .i64 3,.int .i64 l,.int .i64 i] rfl rfl (one_cell (by simp)) (by simp [Value.oneCell']) (W0.heap.size) (W0.heap.size) (Nat.le_refl _) (by first|omega|(simp;omega)) (fun g hg=>.inr (hrow.block g hg).1) (((3,l,(i:Int)):Flt)) ⟨rfl,i64_lit3,hl,i64_nat (by omega)⟩ (by first|omega|(simp;omega)) (by decide) (by first|omega|(simp;omega)) ?_;intro v3 w3 row3 ext3 gro3 own3)
    have hx3:=ext3 W0 xw (Nat.le_refl _)
    go_roundw
    case rel=>exact ⟨i+1,rfl,by omega,by rw [HT.out];exact row3,xw⟩
    ·simp only [intOf];omega
   ·have hd:decide (s.most[i]<c[i])=false:=decide_eq_false hp
    have HT:=Lib.hid (fltTo_no (kind:=3) (link:=l) (f:=manyF s c) (n:=i) (by rw [HF.out];exact hd))
    go_wp2
    all_goals go_roundw
    case rel=>exact ⟨i+1,rfl,by omega,by rw [HT.out];exact hrow.ext FltP.keeps xw,xw⟩
    all_goals (simp only [intOf];omega)
  ·have e:i=c.length:=by omega
   subst e
   have HR:=Lib.hid hrow
   clear hrow0
   go_wp2
   go_loopw [37,7] (fun k v wr=>∃i:Nat,k=.int .i64 i∧i≤s.apart.length∧RowL 3 FltP 154 W0.heap.size wr v (fltTo 3 l (manyF s c) c.length++fltTo 4 l (apartF s c) i)∧Ext W0 wr) (fun k _ _=>s.apart.length - (intOf k).toNat)
   case atStart=>exact ⟨0,rfl,Nat.zero_le _,by simpa [fltTo] using hrow,xw⟩
   case round=>
    obtain ⟨i,rfl,hi',hrow,hx⟩:=hrel
    have n3:=hx.keep p3
    have n4:=hx.keep p4
    have hX:Ext w wr:=hx0.trans hx
    by_cases hlt:i<s.apart.length
    ·obtain ⟨hx0',hx1',hy0',hy1'⟩:=hap i hlt
     have HFA:=Lib.hid (apartF_at s c i)
     rcases l4 with l4|⟨bl,ol,rfl,lb1,lb2,l4⟩
     ·rw [l4] at hlt;simp at hlt
     obtain ⟨es,el,hpp,hes⟩:=l4 i hlt
     obtain ⟨x,hxx⟩:=Int.eq_ofNat_of_zero_le hx0'
     obtain ⟨y,hyy⟩:=Int.eq_ofNat_of_zero_le hy0'
     have hxl:x<c.length:=by omega
     have hyl:y<c.length:=by omega
     obtain ⟨rfl,f1,f2⟩:=hpp
     have q0:=hX.keep (hes 0 _ rfl)
     have q1:=hX.keep (hes 1 _ rfl)
     rw [Nat.add_zero,hxx] at q0
     rw [hyy] at q1
     rcases c4 with c4|⟨bc,oc,rfl,cb1,cb2,c4⟩
     ·rw [c4] at hxl;simp at hxl
     obtain ⟨xs,xl,⟨rfl,g1⟩,hxs⟩:=c4 x hxl
     have r0:=hX.keep (hxs 0 _ rfl)
     rw [Nat.mul_one,Nat.add_zero] at r0
     obtain ⟨ys,yl,⟨rfl,g2⟩,hys⟩:=c4 y hyl
     have r1:=hX.keep (hys 0 _ rfl)
     rw [Nat.mul_one,Nat.add_zero] at r1
     have hbc:bc<wr.heap.size:=World.block_lt_of_cell? wr ⟨bc,oc+x,none⟩ r0
     have HF:=Lib.hid (HFA.out x y hlt hxx hyy hxl hyl)
     clear hes hxs hys c4 l4 hxx hyy hx0' hx1' hy0' hy1'
     have hsz:=Below.size hx
     have hL:=fltTo_len 4 l (apartF s c) i
     have hL3:=fltTo_len 3 l (manyF s c) c.length
     have hLL:(fltTo 3 l (manyF s c) c.length++fltTo 4 l (apartF s c) i).length=(fltTo 3 l (manyF s c) c.length).length+(fltTo 4 l (apartF s c) i).length:=List.length_append
     have hL2:(fltTo 3 l (manyF s c) c.length++fltTo 4 l (apartF s c) i).length≤3000000:=by omega
     clear hLL
     generalize c[x]=cx at r0 HF
     generalize c[y]=cy at r1 HF
     by_cases hp:0<cx
     ·have hd:decide (0<cx)=true:=decide_eq_true hp
      by_cases hp2:0<cy
      ·have hd2:decide (0<cy)=true:=decide_eq_true hp2
       have HT:=Lib.hid (fltTo_yes (kind:=4) (link:=l) (f:=apartF s c) (n:=i) (by rw [HF.out,hd,hd2];rfl))
       go_wp2_with (at_builtin;refine wpList_append_row2 FltP.keeps rfl (.tmp 56) (.tmp 60) 138 rfl (W0.heap.size) 154 i0 _ 24 Tryz.underlying138 hi0 hz0 hz1 hz2 rfl (by decide) _ _ (by rfl) (hrow.ext FltP.keeps xw) ⟨wr.heap.size+1,0,none⟩ 1 [.int .i64 4,.int .i64 l,.int .i64 i] rfl rfl (one_cell (by simp)) (by simp [Value.oneCell']) (W0.heap.size) (W0.heap.size) (Nat.le_refl _) (by first|omega|(simp;omega)) (fun g hg=>.inr (hrow.block g hg).1) (((4,l,(i:Int)):Flt)) ⟨rfl,i64_lit4,hl,i64_nat (by omega)⟩ (by first|omega|(simp;omega)) (by decide) (by first|omega|(simp;omega)) ?_;intro v3 w3 row3 ext3 gro3 own3)
       have hx3:=ext3 W0 xw (Nat.le_refl _)
       go_roundw
       case rel=>exact ⟨i+1,rfl,by omega,by rw [HT.out,← List.append_assoc];exact row3,xw⟩
       ·simp only [intOf];omega
      ·have hd2:decide (0<cy)=false:=decide_eq_false hp2
       have HT:=Lib.hid (fltTo_no (kind:=4) (link:=l) (f:=apartF s c) (n:=i) (by rw [HF.out,hd,hd2];rfl))
       go_wp2
       go_roundw
       case rel=>exact ⟨i+1,rfl,by omega,by rw [HT.out];exact hrow.ext FltP.keeps xw,xw⟩
       ·simp only [intOf];omega
     ·have hd:decide (0<cx)=false:=decide_eq_false hp
      have HT:=Lib.hid (fltTo_no (kind:=4) (link:=l) (f:=apartF s c) (n:=i) (by rw [HF.out,hd];rfl))
      go_wp2
      go_roundw
      case rel=>exact ⟨i+1,rfl,by omega,by rw [HT.out];exact hrow.ext FltP.keeps xw,xw⟩
      ·simp only [intOf];omega
    ·have e:i=s.apart.length:=by omega
     subst e
     go_wp2
     go_ret
     exact ⟨_,rfl,hrow.toSlV FltP.widens (by omega),hX⟩
end Go.Proofs.YtccjepndhlobpaaGreatDoor

/-
  Walks: a test over faults.
-/
namespace Go.Proofs.YtccjepndhlobpaaGreatDoor
open Go.RowKit
set_option linter.unusedVariables false
set_option linter.unusedSimpArgs false
set_option maxHeartbeats 1600000 in
theorem c_slices_IndexFunc_impl_Fault_impl_Fault (lo hi:Nat) (p:Flt→Bool) (gf:FuncId) (lb:Array Value) (v:Value) (xs:List Flt) (w:World) (h:SlV 3 FltP lo hi w v xs) (eg:∀args w,(callFunc gf args).run Tryz.prog w=.ok (.enter gf args) w)
 (hf:∀(i:Nat) (h:i<xs.length) (cs:List Value) (W:World),Ext w W→FltP lo hi W cs xs[i]→Calls Tryz.prog gf (#[.agg cs.toArray]++lb) W fun e W'=>e=.returned (.bool (p xs[i]))∧Ext W W') :
 Calls Tryz.prog 186 #[v,.func (.func gf) #[] lb] w fun e w'=>∃r:Int,e=.returned (.int .i64 r)∧decide (0≤r)=xs.any p∧Ext w w':=by
 obtain ⟨a,k,rfl,g1,g2,g3,g4⟩:=h
 unfold maxLen at g2
 go_enter Tryz.func186,Tryz.ntmps186
 go_wp2
 go_loopw [5,8] (fun _ c wr=>∃i:Nat,c=.int .i64 i∧i≤xs.length∧(xs.take i).any p=false∧Ext w wr) (fun _ c _=>xs.length - (intOf c).toNat)
 case atStart=>exact ⟨0,rfl,Nat.zero_le _,rfl,xw⟩
 case round=>
  obtain ⟨i,rfl,hi',hno,hx⟩:=hrel
  by_cases hlt:i<xs.length
  ·rcases g4 with g4|⟨b,o,rfl,gb1,gb2,g4⟩
   ·subst g4;simp at hlt
   ·obtain ⟨cs,hl,hP,hc⟩:=g4 i hlt
    have HP:=FltP.keeps _ _ _ _ _ _ (Same.ext hx) hP
    have HF:=hf i hlt cs wr hx HP
    obtain ⟨rfl,e1,e2,e3⟩:=hP
    have q0:=hx.keep (hc 0 _ rfl)
    have q1:=hx.keep (hc 1 _ rfl)
    have q2:=hx.keep (hc 2 _ rfl)
    rw [Nat.add_zero] at q0
    clear g4 hc hf
    have hsucc:=any_take_succ p xs i hlt
    have hany:=any_of p xs i hlt
    generalize hpv:p xs[i]=pv at HF hsucc hany
    cases pv
    ·go_wp2_with (refine HF.mono ?_;rintro e y ⟨rfl,hb⟩)
     go_roundw
     case rel=>exact ⟨i+1,rfl,by omega,by rw [hsucc,hno];rfl,xw⟩
     ·simp only [intOf];omega
    ·have hA:=Lib.hid (hany rfl)
     clear hany hsucc
     go_wp2_with (refine HF.mono ?_;rintro e y ⟨rfl,hb⟩)
     go_ret
     exact ⟨_,rfl,by rw [hA.out];simp,xw⟩
  ·go_wp2
   go_ret
   rw [List.take_of_length_le (by omega)] at hno
   exact ⟨_,rfl,by rw [hno];rfl,xw⟩
theorem c_slices_ContainsFunc_impl_Fault_impl_Fault (lo hi:Nat) (p:Flt→Bool) (gf:FuncId) (lb:Array Value) (v:Value) (xs:List Flt) (w:World) (h:SlV 3 FltP lo hi w v xs) (eg:∀args w,(callFunc gf args).run Tryz.prog w=.ok (.enter gf args) w)
 (hf:∀(i:Nat) (h:i<xs.length) (cs:List Value) (W:World),Ext w W→FltP lo hi W cs xs[i]→Calls Tryz.prog gf (#[.agg cs.toArray]++lb) W fun e W'=>e=.returned (.bool (p xs[i]))∧Ext W W') :
 Calls Tryz.prog 122 #[v,.func (.func gf) #[] lb] w fun e w'=>e=.returned (.bool (xs.any p))∧Ext w w':=by
 have H:=c_slices_IndexFunc_impl_Fault_impl_Fault lo hi p gf lb v xs w h eg hf
 clear hf
 generalize xs.any p=r0 at H ⊢
 go_enter Tryz.func122,Tryz.ntmps122
 go_wp2_with (go_at_call 186;refine H.mono ?_;rintro e y ⟨r,rfl,hr,hb⟩)
 all_goals go_ret
 all_goals exact ⟨ret_bool (by simp),xw⟩
theorem c_impl_Sorting_isSorted_1 (lo hi B:Nat) (cs:List Value) (x:Flt) (w:World) (h:FltP lo hi w cs x) (hc:w.cell? ⟨B,0,none⟩=some (.bool false)) :
 Calls Tryz.prog 124 #[.agg cs.toArray,.pointer (some ⟨B,0,none⟩)] w fun e w'=>e=.returned (.bool true)∧Ext w w':=by
 obtain ⟨rfl,e1,e2,e3⟩:=h
 have hB:B<w.heap.size:=World.block_lt_of_cell? w ⟨B,0,none⟩ hc
 go_enter Tryz.func124,Tryz.ntmps124
 go_wp2
 go_ret
 exact ⟨rfl,xw⟩
end Go.Proofs.YtccjepndhlobpaaGreatDoor
