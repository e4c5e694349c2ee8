/-
  Plain facts and facts on memory that the walks lean on.
-/
import Derived.Test.YtccjepndhlobpaaGreatDoorC5
import Derived.Test.YtccjepndhlobpaaGreatDoorC8
import Derived.Test.YtccjepndhlobpaaGreatDoorB0
/-
  Plain: a valid sorting and a valid bigraph fit each other.
-/
namespace Go.Proofs.YtccjepndhlobpaaGreatDoor
open Go.RowKit
set_option linter.unusedVariables false
set_option linter.unusedSimpArgs false

theorem sortB_parts {sig:List Ctl} {s:Srt} (h:sortB sig s=true):sigB sig=true∧nestB sig s.nest=true∧sortsB sig s.sorts (s.most.length:Int)=true∧inR (s.most.length:Int) 1 4=true∧pairsB (s.most.length:Int) s.apart=true:=by
 unfold sortB at h
 simp only [Bool.and_eq_true] at h
 obtain ⟨a,b,c,d,e,f,g⟩:=h
 exact ⟨a,c,d,e,g⟩
theorem node_parts {sig:List Ctl} {b:Big} (h:bigB sig b=true) (i:Nat) (hi:i<b.nodes.length):0≤(b.nodes[i]).control∧(b.nodes[i]).control<sig.length∧underB sig b (b.nodes[i]).parent i=true∧((b.nodes[i]).links.length:Int)=(sgAt sig (b.nodes[i]).control).ports:=by
 obtain ⟨_,h2,_,_⟩:=bigB_parts h
 have h3:=(all_range_iff _ _).1 h2 i hi
 rw [nodeOk_at sig b i hi] at h3
 simp only [Bool.and_eq_true,decide_eq_true_eq] at h3
 have hc:=inR_le h3.1
 exact ⟨hc.1,by omega,h3.2.1,h3.2.2.1⟩
theorem par_ok {sig:List Ctl} {s:Srt} {b:Big} (hs:sortB sig s=true) (hb:bigB sig b=true) (i:Nat) (hi:i<b.nodes.length):ParOk s b (b.nodes[i]).parent:=by
 obtain ⟨_,hn,_,_,_⟩:=sortB_parts hs
 have hnl:s.nest.length=sig.length:=by
  unfold nestB at hn
  simp only [Bool.and_eq_true,decide_eq_true_eq] at hn
  exact hn.1
 obtain ⟨_,_,hu,_⟩:=node_parts hb i hi
 by_cases hp:(b.nodes[i]).parent<0
 ·exact .inl hp
 ·rw [underB_pos hp] at hu
  simp only [Bool.and_eq_true,decide_eq_true_eq] at hu
  obtain ⟨n,hn'⟩:=Int.eq_ofNat_of_zero_le (show 0≤(b.nodes[i]).parent by omega)
  have hnn:n<b.nodes.length:=by omega
  obtain ⟨c0,c1,_,_⟩:=node_parts hb n hnn
  exact .inr ⟨n,hnn,hn',c0,by omega⟩
theorem ports_mem {b:Big} {l:Int} {pt:Int × Int} (h:pt∈portsL b l):∃(i k:Nat) (hi:i<b.nodes.length),pt=((i:Int),(k:Int))∧k<(b.nodes[i]).links.length:=by
 unfold portsL portsTo at h
 obtain ⟨i,hi,hp⟩:=List.mem_flatMap.1 h
 have hi':=List.mem_range.1 hi
 have e:b.nodes.getD i ⟨0,0,[]⟩=b.nodes[i]:=by rw [List.getD_eq_getElem?_getD,List.getElem?_eq_getElem hi'];rfl
 rw [e] at hp
 unfold portsAt at hp
 obtain ⟨k,hk,rfl⟩:=List.mem_map.1 hp
 exact ⟨i,k,hi',rfl,List.mem_range.1 (List.mem_filter.1 hk).1⟩
theorem port_ok {sig:List Ctl} {s:Srt} {b:Big} (hs:sortB sig s=true) (hb:bigB sig b=true) (l:Int) (j:Nat) (hj:j<(portsL b l).length):PortOk s b (portsL b l)[j]:=by
 obtain ⟨_,_,hso,_,_⟩:=sortB_parts hs
 obtain ⟨i,k,hi,hpt,hk⟩:=ports_mem (List.getElem_mem hj)
 obtain ⟨c0,c1,_,hl⟩:=node_parts hb i hi
 obtain ⟨m,hm⟩:=Int.eq_ofNat_of_zero_le c0
 unfold sortsB at hso
 simp only [Bool.and_eq_true,decide_eq_true_eq] at hso
 have hms:m<s.sorts.length:=by omega
 have hmg:m<sig.length:=by omega
 have h3:=(all_range_iff _ _).1 hso.2 m hms
 rw [sortsOk_at sig s.sorts _ m hmg hms] at h3
 simp only [Bool.and_eq_true,decide_eq_true_eq] at h3
 rw [hm,sgAt_nat sig m hmg] at hl
 have hkl:k<(s.sorts[m]).length:=by omega
 have h4:=List.all_eq_true.1 h3.2 _ (List.getElem_mem hkl)
 have h5:=inR_le h4
 obtain ⟨q,hq⟩:=Int.eq_ofNat_of_zero_le h5.1
 exact ⟨i,k,hi,hpt,m,hm,hms,hkl,q,hq,by omega⟩
theorem apart_ok {sig:List Ctl} {s:Srt} (hs:sortB sig s=true) (i:Nat) (hi:i<s.apart.length):0≤(s.apart[i]).1∧(s.apart[i]).1<s.most.length∧0≤(s.apart[i]).2∧(s.apart[i]).2<s.most.length:=by
 obtain ⟨_,_,_,_,hp⟩:=sortB_parts hs
 unfold pairsB at hp
 have h3:=(all_range_iff _ _).1 hp i hi
 rw [pairOk_at _ _ i hi] at h3
 simp only [Bool.and_eq_true,decide_eq_true_eq] at h3
 obtain ⟨⟨h4,h5,h6⟩,_⟩:=h3
 omega
theorem most_le {sig:List Ctl} {s:Srt} (hs:sortB sig s=true):1≤s.most.length∧s.most.length≤4:=by
 obtain ⟨_,_,_,h,_⟩:=sortB_parts hs
 have:=inR_le h
 omega
theorem links_le {sig:List Ctl} {b:Big} (hb:bigB sig b=true):linksN b≤24:=by
 obtain ⟨h1,_,_,_⟩:=bigB_parts hb
 obtain ⟨_,_,_,_,e,f,_⟩:=headB_parts h1
 have:=inR_le e
 have:=namesB_len f
 unfold linksN
 omega
theorem onL_len (s:Srt) (b:Big) (l:Int):(onL s b l).length=s.most.length:=by unfold onL;exact countsTo_len _ _ _ _


end Go.Proofs.YtccjepndhlobpaaGreatDoor

/-
  Walks: all faults, by the reference.
-/
namespace Go.Proofs.YtccjepndhlobpaaGreatDoor
open Go.RowKit
set_option linter.unusedVariables false
set_option linter.unusedSimpArgs false
def faultsN (s:Srt) (b:Big) (n:Nat):List Flt:=(List.range n).flatMap (placedL s b)
def linkFlts (s:Srt) (b:Big) (l:Nat):List Flt:=sharedL s (l:Int) (onL s b l)
def faultsK (s:Srt) (b:Big) (n:Nat):List Flt:=(List.range n).flatMap (linkFlts s b)
/-- All faults. -/
def faultsL (s:Srt) (b:Big):List Flt:=faultsN s b b.nodes.length++faultsK s b (linksN b)
theorem faultsN_succ (s:Srt) (b:Big) (n:Nat):faultsN s b (n+1)=faultsN s b n++placedL s b n:=by unfold faultsN;rw [List.range_succ,List.flatMap_append];simp
theorem faultsK_succ (s:Srt) (b:Big) (n:Nat):faultsK s b (n+1)=faultsK s b n++linkFlts s b n:=by unfold faultsK;rw [List.range_succ,List.flatMap_append];simp
theorem placedL_len (s:Srt) (b:Big) (i:Nat):(placedL s b i).length≤1:=by unfold placedL;split <;> (try split) <;> simp
theorem faultsN_len (s:Srt) (b:Big) (n:Nat):(faultsN s b n).length≤n:=by
 induction n with
 | zero=>simp [faultsN]
 | succ n ih=>rw [faultsN_succ,List.length_append];have:=placedL_len s b n;omega
theorem linkFlts_len (s:Srt) (b:Big) (l:Nat) (h1:s.most.length≤4) (h2:s.apart.length≤1048576):(linkFlts s b l).length≤1048580:=by
 unfold linkFlts sharedL
 rw [List.length_append]
 have:=fltTo_len 3 (l:Int) (manyF s (onL s b l)) (onL s b l).length
 have:=fltTo_len 4 (l:Int) (apartF s (onL s b l)) s.apart.length
 have:=onL_len s b l
 omega
theorem faultsK_len (s:Srt) (b:Big) (n:Nat) (h1:s.most.length≤4) (h2:s.apart.length≤1048576):(faultsK s b n).length≤n * 1048580:=by
 induction n with
 | zero=>simp [faultsK]
 | succ n ih=>rw [faultsK_succ,List.length_append];have:=linkFlts_len s b n h1 h2;omega
theorem FltP.ones:Ones FltP:=by
 rintro lo hi w cs x ⟨rfl,_⟩ u hu
 simp at hu
 rcases hu with rfl|rfl|rfl <;> simp [Value.oneCell']
attribute [local irreducible] inR hasI allowedL portsL countsTo sortOf manyF apartF placedL linkFlts onL
set_option maxRecDepth 100000 in
set_option maxHeartbeats 3200000 in
theorem c_spec_l7Faults (lo hi lo' hi':Nat) (cs ds:List Value) (sig:List Ctl) (s:Srt) (b:Big) (w:World) (hs:SrtP lo hi w cs s) (h:BigP lo' hi' w ds b) (hsB:sortB sig s=true) (hbB:bigB sig b=true) (hal:s.apart.length≤1048576) :
 Calls Tryz.prog 105 #[.agg cs.toArray,.agg ds.toArray] w fun e w'=>∃v,e=.returned v∧SlV 3 FltP w.heap.size w'.heap.size w' v (faultsL s b)∧Ext w w':=by
 have hSS:=hs
 have hBB:=h
 obtain ⟨u0,u1,u2,u3,u4,rfl,hT,hNe,hSo,hM,hA⟩:=hs
 obtain ⟨a3,k3,rfl,o1,o2,o3,_⟩:=hM
 obtain ⟨a5,k5,rfl,x1,x2,x3,_⟩:=hA
 obtain ⟨v1,v2,v4,v5,rfl,r1,r2,hN,hS,hO,hI⟩:=h
 obtain ⟨a1,k1,rfl,g1,g2,g3,_⟩:=hN
 obtain ⟨a4,k4,rfl,y1,y2,y3,_⟩:=hO
 unfold maxLen at g2 y2 o2 x2
 have D:=dims_of hbB
 have hdn:=D.nodes
 have hee:=inR_le D.edges
 have hdo:=D.outer
 have hml:=most_le hsB
 have hll:=links_le hbB
 have HSB:=Lib.hid hsB
 have HBB:=Lib.hid hbB
 have HD:=Lib.hid D
 clear hsB hbB D
 obtain ⟨i0,hi0,hz0,hz1,hz2⟩:=infoFlt
 obtain ⟨W0,hW0,hbx,hx0,hz⟩:=box_facts w [u0,u1,u2,.slice a3 s.most.length k3,.slice a5 s.apart.length k5] 39
 obtain ⟨W1,hW1,hbx1,hx1,hzz⟩:=box_facts W0 [.int .i64 b.roots,.slice a1 b.nodes.length k1,v2,.int .i64 b.edges,.slice a4 b.outer.length k4,v5] 44
 have p0:=hx1.keep (hbx 0 _ rfl).1
 have p1:=hx1.keep (hbx 1 _ rfl).1
 have p2:=hx1.keep (hbx 2 _ rfl).1
 have p3:=hx1.keep (hbx 3 _ rfl).1
 have p4:=hx1.keep (hbx 4 _ rfl).1
 have s0:=(hbx1 0 _ rfl).1
 have s1:=(hbx1 1 _ rfl).1
 have s2:=(hbx1 2 _ rfl).1
 have s3:=(hbx1 3 _ rfl).1
 have s4:=(hbx1 4 _ rfl).1
 have s5:=(hbx1 5 _ rfl).1
 have hza:w.heap.size<W0.heap.size:=by omega
 have hzb:W0.heap.size<W1.heap.size:=by omega
 clear hz hzz hbx hbx1
 have hx:=hx0.trans hx1
 replace hSS:=SrtP.keeps _ _ _ _ _ _ (Same.ext hx) hSS
 replace hBB:=BigP.keeps _ _ _ _ _ _ (Same.ext hx) hBB
 have hrow0:RowL 3 FltP 154 W1.heap.size (W1.alloc (.cells #[] 154)) (.slice (some ⟨W1.heap.size,0,none⟩) 0 0) []:=RowL.made (Nat.le_refl _)
 go_enter Tryz.func105,Tryz.ntmps105
 go_wp2
 go_loopw [5,6] (fun v k wr=>∃i:Nat,k=.int .i64 i∧i≤b.nodes.length∧RowL 3 FltP 154 W1.heap.size wr v (faultsN s b i)∧Ext W1 wr) (fun _ k _=>b.nodes.length - (intOf k).toNat)
 case atStart=>exact ⟨0,rfl,Nat.zero_le _,hrow0,xw⟩
 case round=>
  obtain ⟨i,rfl,hin,hrow,hxr⟩:=hrel
  have n0:=hxr.keep p0
  have n1:=hxr.keep p1
  have n2:=hxr.keep p2
  have n3:=hxr.keep p3
  have n4:=hxr.keep p4
  have m0:=hxr.keep s0
  have m1:=hxr.keep s1
  have m2:=hxr.keep s2
  have m3:=hxr.keep s3
  have m4:=hxr.keep s4
  have m5:=hxr.keep s5
  have hSSr:=SrtP.keeps _ _ _ _ _ _ (Same.ext hxr) hSS
  have hBBr:=BigP.keeps _ _ _ _ _ _ (Same.ext hxr) hBB
  have hX:Ext w wr:=hx.trans hxr
  by_cases hlt:i<b.nodes.length
  ·have HT:=Lib.hid (faultsN_succ s b i)
   have hL:=faultsN_len s b i
   have hP1:=placedL_len s b i
   have hsz:=Below.size hxr
   go_wp2_with fail
   refine (c_spec_l7Placed lo hi lo' hi' [u0,u1,u2,.slice a3 s.most.length k3,.slice a5 s.apart.length k5] [.int .i64 b.roots,.slice a1 b.nodes.length k1,v2,.int .i64 b.edges,.slice a4 b.outer.length k4,v5] s b i _ hSSr hBBr hlt hdn (par_ok HSB.out HBB.out i hlt)).mono ?_
   rintro e y ⟨vp,rfl,hVP,hb⟩
   have hszy:=Below.size hb
   have hrowy:=hrow.ext FltP.keeps hb
   have hxy:=hxr.trans hb
   go_wp2_with (at_builtin;refine wpList_append_all FltP.flat FltP.ones rfl (.tmp 16) (.tmp 20) 138 rfl (W1.heap.size) 154 i0 _ 24 Tryz.underlying138 hi0 hz0 hz1 hz2 rfl (by decide) _ _ (by rfl) hrowy _ (placedL s b i) _ _ (by rfl) hVP (by omega) (by decide) (by omega) ?_;intro v3 w3 row3 ext3 gro3 own3)
   have hx3:=ext3 W1 hxy (Nat.le_refl _)
   go_roundw
   case rel=>exact ⟨i+1,rfl,by omega,by rw [HT.out];exact row3,hx3⟩
   ·simp only [intOf];omega
  ·have e:i=b.nodes.length:=by omega
   subst e
   have hLN:=faultsN_len s b b.nodes.length
   have hln:((linksN b:Nat):Int)=b.edges+b.outer.length:=by unfold linksN;omega
   have hln1:((linksN b:Nat):Int)≤b.edges+b.outer.length:=by omega
   have hln2:b.edges+b.outer.length≤((linksN b:Nat):Int):=by omega
   clear hln hrow0
   go_wp2
   go_loopw [5,7] (fun v k wr=>∃i:Nat,k=.int .i64 i∧i≤linksN b∧RowL 3 FltP 154 W1.heap.size wr v (faultsN s b b.nodes.length++faultsK s b i)∧Ext W1 wr) (fun _ k _=>linksN b - (intOf k).toNat)
   case atStart=>exact ⟨0,rfl,Nat.zero_le _,by simpa [faultsK] using hrow,hxr⟩
   case round=>
    clear hrow
    obtain ⟨i,rfl,hin,hrow,hxr⟩:=hrel
    have n0:=hxr.keep p0
    have n1:=hxr.keep p1
    have n2:=hxr.keep p2
    have n3:=hxr.keep p3
    have n4:=hxr.keep p4
    have m0:=hxr.keep s0
    have m1:=hxr.keep s1
    have m2:=hxr.keep s2
    have m3:=hxr.keep s3
    have m4:=hxr.keep s4
    have m5:=hxr.keep s5
    have hX:Ext w wr:=hx.trans hxr
    by_cases hlt:i<linksN b
    ·have HT:=Lib.hid (faultsK_succ s b i)
     have hL:=faultsK_len s b i hml.2 hal
     have hP1:=linkFlts_len s b i hml.2 hal
     have hLL:(faultsN s b b.nodes.length++faultsK s b i).length=(faultsN s b b.nodes.length).length+(faultsK s b i).length:=List.length_append
     have hL2:(faultsN s b b.nodes.length++faultsK s b i).length+(linkFlts s b i).length<100000000:=by omega
     clear hLL
     have HLF:Hid (linkFlts s b i=sharedL s (i:Int) (onL s b i)):=Lib.hid (by unfold linkFlts;rfl)
     have hsz:=Below.size hxr
     go_wp2_with fail
     refine wp_region_held_drew (S:=(fun w'=>Ext W1 w')) (by kernel_rfl) ?_ (fun hHeld=>?_)
     ·refine xw
     refine tkP 0 ?_ ?_ ?_;rotate_left;focus (intro w;go_simp;try with_reducible rfl)
     try simp only [Act.put,aput]
     refine tkY 1 ?_ ?_ ?_;rotate_left;focus (intro w hSw;(try dsimp only at hSw);have sx:=hSw;have s_p0:=Ext.keep sx p0;have s_p1:=Ext.keep sx p1;have s_p2:=Ext.keep sx p2;have s_p3:=Ext.keep sx p3;have s_p4:=Ext.keep sx p4;have s_s0:=Ext.keep sx s0;have s_s1:=Ext.keep sx s1;have s_s2:=Ext.keep sx s2;have s_s3:=Ext.keep sx s3;have s_s4:=Ext.keep sx s4;have s_s5:=Ext.keep sx s5;go_simp;try with_reducible rfl)
     try simp only [Act.put,aput]
     refine tkP 2 ?_ ?_ ?_;rotate_left;focus (intro w;go_simp;try with_reducible rfl)
     try simp only [Act.put,aput]
     refine tkY 3 ?_ ?_ ?_;rotate_left;focus (intro w hSw;(try dsimp only at hSw);have sx:=hSw;have s_p0:=Ext.keep sx p0;have s_p1:=Ext.keep sx p1;have s_p2:=Ext.keep sx p2;have s_p3:=Ext.keep sx p3;have s_p4:=Ext.keep sx p4;have s_s0:=Ext.keep sx s0;have s_s1:=Ext.keep sx s1;have s_s2:=Ext.keep sx s2;have s_s3:=Ext.keep sx s3;have s_s4:=Ext.keep sx s4;have s_s5:=Ext.keep sx s5;go_simp;try with_reducible rfl)
     try simp only [Act.put,aput]
     refine tkY 4 ?_ ?_ ?_;rotate_left;focus (intro w hSw;(try dsimp only at hSw);have sx:=hSw;have s_p0:=Ext.keep sx p0;have s_p1:=Ext.keep sx p1;have s_p2:=Ext.keep sx p2;have s_p3:=Ext.keep sx p3;have s_p4:=Ext.keep sx p4;have s_s0:=Ext.keep sx s0;have s_s1:=Ext.keep sx s1;have s_s2:=Ext.keep sx s2;have s_s3:=Ext.keep sx s3;have s_s4:=Ext.keep sx s4;have s_s5:=Ext.keep sx s5;go_simp;try with_reducible rfl)
     try simp only [Act.put,aput]
     refine tkP 5 ?_ ?_ ?_;rotate_left;focus (intro w;go_simp;try with_reducible rfl)
     try simp only [Act.put,aput]
     refine wpAnyH_ready (rs:=[6]) (by kernel_rfl) (by simp) ?_
     refine AllReadyH.cons rfl (fun K hK=>?_) AllReadyH.nil
     (try simp only [aput])
     go_simp
     (have hSw:=hHeld;(try dsimp only at hSw);have sx:=hSw;have s_p0:=Ext.keep sx p0;have s_p1:=Ext.keep sx p1;have s_p2:=Ext.keep sx p2;have s_p3:=Ext.keep sx p3;have s_p4:=Ext.keep sx p4;have s_s0:=Ext.keep sx s0;have s_s1:=Ext.keep sx s1;have s_s2:=Ext.keep sx s2;have s_s3:=Ext.keep sx s3;have s_s4:=Ext.keep sx s4;have s_s5:=Ext.keep sx s5;have s_hSS:=SrtP.keeps _ _ _ _ _ _ (Same.ext sx) hSS;have s_hBB:=BigP.keeps _ _ _ _ _ _ (Same.ext sx) hBB;(go_at_call 159;refine (c_spec_l7On lo hi lo' hi' [u0,u1,u2,.slice a3 s.most.length k3,.slice a5 s.apart.length k5] [.int .i64 b.roots,.slice a1 b.nodes.length k1,v2,.int .i64 b.edges,.slice a4 b.outer.length k4,v5] s b i _ s_hSS s_hBB hdn HD.out.links (by omega) (port_ok HSB.out HBB.out i)).mono ?_;rintro e y ⟨vc,rfl,hVC,hb⟩;have hrA:=hrow.ext FltP.keeps (((Ext.refl wr).drew).trans hb)))
     show K _ _
     refine hK.out _ _ (by (have hh:=hHeld;(try dsimp only at hh);exact hh.trans hb)) (fun hHeld=>?_)
     clear hK K
     try simp only [Act.put,aput]
     refine wpAnyH_ready (rs:=[7]) (by kernel_rfl) (by simp) ?_
     refine AllReadyH.cons rfl (fun K hK=>?_) AllReadyH.nil
     (try simp only [aput])
     go_simp
     (have hSw:=hHeld;(try dsimp only at hSw);have sx:=hSw;have s_p0:=Ext.keep sx p0;have s_p1:=Ext.keep sx p1;have s_p2:=Ext.keep sx p2;have s_p3:=Ext.keep sx p3;have s_p4:=Ext.keep sx p4;have s_s0:=Ext.keep sx s0;have s_s1:=Ext.keep sx s1;have s_s2:=Ext.keep sx s2;have s_s3:=Ext.keep sx s3;have s_s4:=Ext.keep sx s4;have s_s5:=Ext.keep sx s5;have s_hSS:=SrtP.keeps _ _ _ _ _ _ (Same.ext sx) hSS;have s_hBB:=BigP.keeps _ _ _ _ _ _ (Same.ext sx) hBB;(go_at_call 158;refine (c_spec_l7Shared lo hi _ _ [u0,u1,u2,.slice a3 s.most.length k3,.slice a5 s.apart.length k5] s _ (onL s b i) i _ s_hSS hVC (i64_nat (by omega)) (onL_len s b i) (by omega) hal (fun j hj=>by rw [onL_len];exact apart_ok HSB.out j hj)).mono ?_;rintro e y ⟨vs,rfl,hVS,hb⟩;have hrB:=hrA.ext FltP.keeps hb;rw [← HLF.out] at hVS))
     show K _ _
     refine hK.out _ _ (by (have hh:=hHeld;(try dsimp only at hh);exact hh.trans hb)) (fun hHeld=>?_)
     clear hK K
     try simp only [Act.put,aput]
     refine wpAnyH_ready (rs:=[8]) (by kernel_rfl) (by simp) ?_
     refine AllReadyH.cons rfl (fun K hK=>?_) AllReadyH.nil
     (refine step_append_all FltP.flat FltP.ones rfl (.tmp 32) (.tmp 39) 138 rfl (W1.heap.size) 154 i0 _ 24 Tryz.underlying138 hi0 hz0 hz1 hz2 rfl (by decide) _ _ (by rfl) hrB _ (linkFlts s b i) _ _ (by rfl) hVS hL2 (by decide) (Below.size hHeld) ?_;intro v3 w3 row3 ext3)
     show K _ _
     refine hK.out _ _ (by exact (ext3 W1 hHeld (Nat.le_refl _))) (fun hHeld=>?_)
     clear hK K
     try simp only [Act.put,aput]
     refine tkP 9 ?_ ?_ ?_;rotate_left;focus (intro w;go_simp;try with_reducible rfl)
     try simp only [Act.put,aput]
     refine wpAnyH_done (by kernel_rfl) ?_ _
     all_goals go_wp2
     all_goals go_roundw
     case rel=>exact ⟨i+1,rfl,by omega,by rw [HT.out,← List.append_assoc];exact row3,by assumption⟩
     all_goals (simp only [intOf];omega)
    ·have e:i=linksN b:=by omega
     subst e
     go_wp2
     go_ret
     exact ⟨_,rfl,hrow.toSlV FltP.widens (by omega),hX⟩
end Go.Proofs.YtccjepndhlobpaaGreatDoor

/-
  Walks: counts of ports on a link, by the program.
-/
namespace Go.Proofs.YtccjepndhlobpaaGreatDoor
open Go.RowKit
set_option linter.unusedVariables false
set_option linter.unusedSimpArgs false
attribute [local irreducible] inR hasI allowedL portsL countsTo sortOf
set_option maxRecDepth 100000 in
set_option maxHeartbeats 3200000 in
theorem c_impl_Sorting_sortsOn (lo hi lo' hi':Nat) (cs ds:List Value) (s:Srt) (b:Big) (l:Int) (w:World) (hs:SrtP lo hi w cs s) (h:BigP lo' hi' w ds b) (hlen:b.nodes.length≤1000) (hlinks:∀i (h:i<b.nodes.length),(b.nodes[i]).links.length≤1000) (hlen2:b.inner.length≤1048576) (hml:s.most.length≤1000) (hok:∀j (h:j<(portsL b l).length),PortOk s b (portsL b l)[j]) :
 Calls Tryz.prog 190 #[.agg cs.toArray,.agg ds.toArray,.int .i64 l] w fun e w'=>∃v,e=.returned v∧SlV 1 IntP w.heap.size w'.heap.size w' v (onL s b l)∧Ext w w':=by
 have hBB:=h
 obtain ⟨u0,u1,u2,u3,u4,rfl,hT,hNe,hSo,hM,hA⟩:=hs
 obtain ⟨v1,v2,v4,v5,rfl,r1,r2,hN,hS,hO,hI⟩:=h
 obtain ⟨a1,k1,rfl,g1,g2,g3,g4⟩:=hN
 obtain ⟨c2,l2,rfl,m1,m2,m3,m4⟩:=hSo
 obtain ⟨c3,l3,rfl,o1,o2,o3,_⟩:=hM
 unfold maxLen at g2 m2 o2
 obtain ⟨W0,hW0,hbx,hx0,hz⟩:=box_facts w [u0,u1,.slice c2 s.sorts.length l2,.slice c3 s.most.length l3,u4] 39
 obtain ⟨W1,hW1,hbx1,hx1,hz1⟩:=box_facts W0 [.int .i64 b.roots,.slice a1 b.nodes.length k1,v2,.int .i64 b.edges,v4,v5] 44
 have p2:=hx1.keep (hbx 2 _ rfl).1
 have p3:=hx1.keep (hbx 3 _ rfl).1
 have s0:=(hbx1 0 _ rfl).1
 have s1:=(hbx1 1 _ rfl).1
 have s2:=(hbx1 2 _ rfl).1
 have s3:=(hbx1 3 _ rfl).1
 have s4:=(hbx1 4 _ rfl).1
 have s5:=(hbx1 5 _ rfl).1
 have hzz:w.heap.size<W0.heap.size:=by omega
 have hzz1:W0.heap.size<W1.heap.size:=by omega
 clear hz hz1 hbx hbx1
 have hx:=hx0.trans hx1
 have hszx:=Below.size hx
 replace hBB:=BigP.keeps _ _ _ _ _ _ (Same.ext hx) hBB
 have hpl:=portsTo_len b l b.nodes.length (Nat.le_refl _) hlinks
 have hpl2:(portsL b l).length≤1000000:=by unfold portsL;omega
 obtain ⟨i0,hi0,hz0,hz1,hz2⟩:=info_parts infoInt
 obtain ⟨W2,hmk,own0,gro0⟩:=run_make_full W1 W1.heap.size 23 3 i0 _ 1 Tryz.underlying23 hi0 hz0 hz1 .i64 .i64 s.most.length (by rw [hz2];omega) (by unfold maxLen;omega) (Nat.le_refl _)
 have x2:=ext_none gro0
 have hz':=made_zero s.most.length
 change (madeCells (Value.int .i64 0).cells (s.most.length * 1)).toList=_ at hz'
 rw [hz'] at own0
 clear hz' hi0 hz0 hz1 hz2 gro0
 have t2:=x2.keep p2
 have t3:=x2.keep p3
 have z0:=x2.keep s0
 have z1:=x2.keep s1
 have z2:=x2.keep s2
 have z3:=x2.keep s3
 have z4:=x2.keep s4
 have z5:=x2.keep s5
 have hB2:=BigP.keeps _ _ _ _ _ _ (Same.ext x2) hBB
 go_enter Tryz.func190,Tryz.ntmps190
 go_wp2_with fail
 refine (c_impl_Bigraph_pointsOf lo' hi' [.int .i64 b.roots,.slice a1 b.nodes.length k1,v2,.int .i64 b.edges,v4,v5] b l _ hB2 hlen hlinks hlen2).mono ?_
 rintro e y ⟨vp,vq,rfl,hP,hQ,hb⟩
 obtain ⟨qa,qk,rfl,_,_,_,_⟩:=hQ
 obtain ⟨pa,pk,rfl,y1,y2,y3,y4⟩:=hP
 unfold maxLen at y2
 have hx1y:Ext W1 y:=x2.trans hb
 have own1:y.ownsRow W1.heap.size 3 1 (.slice (some ⟨W1.heap.size,0,none⟩) s.most.length s.most.length) s.most.length (cellsI (countsTo s b (portsL b l) 0)):=by
  have:=ownsRow_ext own0 hb
  rw [show countsTo s b (portsL b l) 0=List.replicate s.most.length 0 by unfold countsTo;rfl]
  exact this
 have hsz2:=own_lt own0
 clear own0 hmk
 go_wp2
 go_loopw [24] (fun c wr=>∃j:Nat,c=.int .i64 j∧j≤(portsL b l).length∧wr.ownsRow W1.heap.size 3 1 (.slice (some ⟨W1.heap.size,0,none⟩) s.most.length s.most.length) s.most.length (cellsI (countsTo s b (portsL b l) j))∧y.grownBy wr (some W1.heap.size)) (fun c _=>(portsL b l).length - (intOf c).toNat)
 case atStart=>exact ⟨0,rfl,Nat.zero_le _,own1,grownBy_refl _ _⟩
 case round=>
  obtain ⟨j,rfl,hj0,own,hgr⟩:=hrel
  have hx1w:Ext W1 wr:=hx1y.own hgr (fun g hg=>by cases hg;exact Nat.le_refl _)
  have hX:Ext w wr:=hx.trans hx1w
  have n2:=hx1w.keep p2
  have n3:=hx1w.keep p3
  have n4:=hx1w.keep s1
  by_cases hjl:j<(portsL b l).length
  ·have HCS:=Lib.hid (countsTo_succ s b (portsL b l) j hjl)
   have hcl:=countsTo_len s b (portsL b l) j
   have hcb:=countsTo_bd s b (portsL b l) j hj0
   obtain ⟨i,k,hi,hpt,m,hcm,hm,hk,q,hq,hqm⟩:=hok j hjl
   have HSO:=Lib.hid (sortOf_at s b i k m q hi hcm hm hk hq)
   rcases y4 with y4|⟨bp,op,rfl,yb1,yb2,y4⟩
   ·rw [y4] at hjl;simp at hjl
   obtain ⟨es,el,⟨rfl,f1,f2⟩,hes⟩:=y4 j hjl
   have r0:=grown_cell hgr (hes 0 _ rfl) (by omega)
   have r1:=grown_cell hgr (hes 1 _ rfl) (by omega)
   rw [Nat.add_zero] at r0
   have HPT:=Lib.hid hpt
   rw [hpt] at r0 r1
   dsimp only at r0 r1
   rcases g4 with g4|⟨b1,o1',rfl,gb1,gb2,g4⟩
   ·rw [g4] at hi;simp at hi
   obtain ⟨ns,nl,⟨nv,rfl,e1,e2,e3⟩,hns⟩:=g4 i hi
   have q0:=hX.keep (hns 0 _ rfl)
   rw [Nat.add_zero,hcm] at q0
   rcases m4 with m4|⟨b2,o2',rfl,mb1,mb2,m4⟩
   ·rw [m4] at hm;simp at hm
   obtain ⟨ts,tl,⟨tv,rfl,hTV⟩,hts⟩:=m4 m hm
   obtain ⟨ta,tk,rfl,w1,w2,w3,w4⟩:=hTV
   have t0:=hX.keep (hts 0 _ rfl)
   rw [Nat.mul_one,Nat.add_zero] at t0
   rcases w4 with w4|⟨b3,o3',rfl,wb1,wb2,w4⟩
   ·rw [w4] at hk;simp at hk
   obtain ⟨zs,zl,⟨rfl,zz⟩,hzs⟩:=w4 k hk
   have t1:=hX.keep (hzs 0 _ rfl)
   rw [Nat.mul_one,Nat.add_zero,hq] at t1
   clear hes y4 hns g4 hts m4 hzs w4 hpt hcm hq
   unfold maxLen at w2
   have ji0:(0:Int)≤(i:Int):=by omega
   have ji1:(i:Int)<(b.nodes.length:Int):=by omega
   have jj0:(0:Int)≤(j:Int):=by omega
   have jj1:(j:Int)<((portsL b l).length:Int):=by omega
   have jm0:(0:Int)≤(m:Int):=by omega
   have jm1:(m:Int)<(s.sorts.length:Int):=by omega
   have jk0:(0:Int)≤(k:Int):=by omega
   have jk1:(k:Int)<((s.sorts[m]).length:Int):=by omega
   have jq0:(0:Int)≤(q:Int):=by omega
   have jq1:(q:Int)<(s.most.length:Int):=by omega
   have hD:Ext wr ((wr.alloc (.cells #[.int .i64 (i:Int),.int .i64 (k:Int)] 166)).drew):=((Ext.refl wr).alloc _).drew
   have hqc:q<(countsTo s b (portsL b l) j).length:=by omega
   have own2:=ownsRow_ext own hD
   have oc:=own_cell own2 q _ (cellsI_at _ q hqc)
   have of:=own2.frozenAt q
   have oc0:=own_cell own q _ (cellsI_at _ q hqc)
   have hbd:=hcb _ (List.getElem_mem hqc)
   have hst:=own2.stored q (.int .i64 ((countsTo s b (portsL b l) j)[q]+1))
   have HNX:=Lib.hid (show countsTo s b (portsL b l) (j+1)=(countsTo s b (portsL b l) j).set q ((countsTo s b (portsL b l) j)[q]+1) by
    rw [HCS.out];unfold stepC;rw [HPT.out,HSO.out,Int.toNat_natCast]
    congr 2
    rw [List.getD_eq_getElem?_getD,List.getElem?_eq_getElem hqc];rfl)
   rw [cellsI_set,← HNX.out] at hst
   have hg2:=grownBy_trans hgr (grownBy_trans (grownBy_ext hD) hst.2)
   have hw1:=hst.1
   clear hst own2 own
   generalize (countsTo s b (portsL b l) j)[q]=cq at oc oc0 hbd hw1 hg2
   have qw:=IntWalk.i64_in (cq+1) (by omega)
   go_wp2_with fail
   refine region_but (L:=20) (S:=(fun w'=>BoxAt w' wr.heap.size [.int .i64 (i:Int),.int .i64 (k:Int)]∧Ext wr w')) (by kernel_rfl) ?_ (fun hHeld=>?_)
   ·(refine ⟨?_,xw⟩;all_goals (intro j u hj;rcases j with _|_|_|_|_|_|_|_|j <;> simp at hj <;> (subst hj;simp)))
   refine anyBut_take (L:=20) (by kernel_rfl) (by decide) (i:=0) (v:=?_) rfl (by kernel_rfl) (by kernel_rfl) (by kernel_rfl) (fun _ _ _ h=>h) (Or.inl ⟨by rfl,?_⟩) (by assumption) ?_
   rotate_left
   ·(intro w hSw;clear hSw;go_simp;(try with_reducible rfl))
   try simp only [Act.put,aput]
   refine anyBut_take (L:=20) (by kernel_rfl) (by decide) (i:=1) (v:=?_) rfl (by kernel_rfl) (by kernel_rfl) (by kernel_rfl) (fun _ _ _ h=>h) (Or.inl ⟨by rfl,?_⟩) (by assumption) ?_
   rotate_left
   ·(intro w hSw;clear hSw;go_simp;(try with_reducible rfl))
   try simp only [Act.put,aput]
   refine anyBut_take (L:=20) (by kernel_rfl) (by decide) (i:=2) (v:=?_) rfl (by kernel_rfl) (by kernel_rfl) (by kernel_rfl) (fun _ _ _ h=>h) (Or.inl ⟨by rfl,?_⟩) (by assumption) ?_
   rotate_left
   ·(intro w hSw;(try dsimp only at hSw);obtain ⟨bx0,sx⟩:=hSw;have c0_0:=(bx0 0 _ rfl).1;have c0_1:=(bx0 1 _ rfl).1;have s_n2:=Ext.keep sx n2;have s_n4:=Ext.keep sx n4;have s_r0:=Ext.keep sx r0;have s_r1:=Ext.keep sx r1;have s_q0:=Ext.keep sx q0;have s_t0:=Ext.keep sx t0;have s_t1:=Ext.keep sx t1;have s_oc0:=Ext.keep sx oc0;go_simp;(try with_reducible rfl))
   try simp only [Act.put,aput]
   refine anyBut_take (L:=20) (by kernel_rfl) (by decide) (i:=3) (v:=?_) rfl (by kernel_rfl) (by kernel_rfl) (by kernel_rfl) (fun _ _ _ h=>h) (Or.inl ⟨by rfl,?_⟩) (by assumption) ?_
   rotate_left
   ·(intro w hSw;clear hSw;go_simp;(try with_reducible rfl))
   try simp only [Act.put,aput]
   refine anyBut_take (L:=20) (by kernel_rfl) (by decide) (i:=4) (v:=?_) rfl (by kernel_rfl) (by kernel_rfl) (by kernel_rfl) (fun _ _ _ h=>h) (Or.inl ⟨by rfl,?_⟩) (by assumption) ?_
   rotate_left
   ·(intro w hSw;(try dsimp only at hSw);obtain ⟨bx0,sx⟩:=hSw;have c0_0:=(bx0 0 _ rfl).1;have c0_1:=(bx0 1 _ rfl).1;have s_n2:=Ext.keep sx n2;have s_n4:=Ext.keep sx n4;have s_r0:=Ext.keep sx r0;have s_r1:=Ext.keep sx r1;have s_q0:=Ext.keep sx q0;have s_t0:=Ext.keep sx t0;have s_t1:=Ext.keep sx t1;have s_oc0:=Ext.keep sx oc0;go_simp;(try with_reducible rfl))
   try simp only [Act.put,aput]
   refine anyBut_take (L:=20) (by kernel_rfl) (by decide) (i:=5) (v:=?_) rfl (by kernel_rfl) (by kernel_rfl) (by kernel_rfl) (fun _ _ _ h=>h) (Or.inl ⟨by rfl,?_⟩) (by assumption) ?_
   rotate_left
   ·(intro w hSw;clear hSw;go_simp;(try with_reducible rfl))
   try simp only [Act.put,aput]
   refine anyBut_take (L:=20) (by kernel_rfl) (by decide) (i:=6) (v:=?_) rfl (by kernel_rfl) (by kernel_rfl) (by kernel_rfl) (fun _ _ _ h=>h) (Or.inl ⟨by rfl,?_⟩) (by assumption) ?_
   rotate_left
   ·(intro w hSw;(try dsimp only at hSw);obtain ⟨bx0,sx⟩:=hSw;have c0_0:=(bx0 0 _ rfl).1;have c0_1:=(bx0 1 _ rfl).1;have s_n2:=Ext.keep sx n2;have s_n4:=Ext.keep sx n4;have s_r0:=Ext.keep sx r0;have s_r1:=Ext.keep sx r1;have s_q0:=Ext.keep sx q0;have s_t0:=Ext.keep sx t0;have s_t1:=Ext.keep sx t1;have s_oc0:=Ext.keep sx oc0;go_simp;(try with_reducible rfl))
   try simp only [Act.put,aput]
   refine anyBut_take (L:=20) (by kernel_rfl) (by decide) (i:=7) (v:=?_) rfl (by kernel_rfl) (by kernel_rfl) (by kernel_rfl) (fun _ _ _ h=>h) (Or.inl ⟨by rfl,?_⟩) (by assumption) ?_
   rotate_left
   ·(intro w hSw;clear hSw;go_simp;(try with_reducible rfl))
   try simp only [Act.put,aput]
   refine anyBut_take (L:=20) (by kernel_rfl) (by decide) (i:=8) (v:=?_) rfl (by kernel_rfl) (by kernel_rfl) (by kernel_rfl) (fun _ _ _ h=>h) (Or.inl ⟨by rfl,?_⟩) (by assumption) ?_
   rotate_left
   ·(intro w hSw;clear hSw;go_simp;(try with_reducible rfl))
   try simp only [Act.put,aput]
   refine anyBut_take (L:=20) (by kernel_rfl) (by decide) (i:=9) (v:=?_) rfl (by kernel_rfl) (by kernel_rfl) (by kernel_rfl) (fun _ _ _ h=>h) (Or.inl ⟨by rfl,?_⟩) (by assumption) ?_
   rotate_left
   ·(intro w hSw;(try dsimp only at hSw);obtain ⟨bx0,sx⟩:=hSw;have c0_0:=(bx0 0 _ rfl).1;have c0_1:=(bx0 1 _ rfl).1;have s_n2:=Ext.keep sx n2;have s_n4:=Ext.keep sx n4;have s_r0:=Ext.keep sx r0;have s_r1:=Ext.keep sx r1;have s_q0:=Ext.keep sx q0;have s_t0:=Ext.keep sx t0;have s_t1:=Ext.keep sx t1;have s_oc0:=Ext.keep sx oc0;go_simp;(try with_reducible rfl))
   try simp only [Act.put,aput]
   refine anyBut_take (L:=20) (by kernel_rfl) (by decide) (i:=10) (v:=?_) rfl (by kernel_rfl) (by kernel_rfl) (by kernel_rfl) (fun _ _ _ h=>h) (Or.inl ⟨by rfl,?_⟩) (by assumption) ?_
   rotate_left
   ·(intro w hSw;clear hSw;go_simp;(try with_reducible rfl))
   try simp only [Act.put,aput]
   refine anyBut_take (L:=20) (by kernel_rfl) (by decide) (i:=11) (v:=?_) rfl (by kernel_rfl) (by kernel_rfl) (by kernel_rfl) (fun _ _ _ h=>h) (Or.inl ⟨by rfl,?_⟩) (by assumption) ?_
   rotate_left
   ·(intro w hSw;(try dsimp only at hSw);obtain ⟨bx0,sx⟩:=hSw;have c0_0:=(bx0 0 _ rfl).1;have c0_1:=(bx0 1 _ rfl).1;have s_n2:=Ext.keep sx n2;have s_n4:=Ext.keep sx n4;have s_r0:=Ext.keep sx r0;have s_r1:=Ext.keep sx r1;have s_q0:=Ext.keep sx q0;have s_t0:=Ext.keep sx t0;have s_t1:=Ext.keep sx t1;have s_oc0:=Ext.keep sx oc0;go_simp;(try with_reducible rfl))
   try simp only [Act.put,aput]
   refine anyBut_take (L:=20) (by kernel_rfl) (by decide) (i:=12) (v:=?_) rfl (by kernel_rfl) (by kernel_rfl) (by kernel_rfl) (fun _ _ _ h=>h) (Or.inl ⟨by rfl,?_⟩) (by assumption) ?_
   rotate_left
   ·(intro w hSw;clear hSw;go_simp;(try with_reducible rfl))
   try simp only [Act.put,aput]
   refine anyBut_take (L:=20) (by kernel_rfl) (by decide) (i:=13) (v:=?_) rfl (by kernel_rfl) (by kernel_rfl) (by kernel_rfl) (fun _ _ _ h=>h) (Or.inl ⟨by rfl,?_⟩) (by assumption) ?_
   rotate_left
   ·(intro w hSw;(try dsimp only at hSw);obtain ⟨bx0,sx⟩:=hSw;have c0_0:=(bx0 0 _ rfl).1;have c0_1:=(bx0 1 _ rfl).1;have s_n2:=Ext.keep sx n2;have s_n4:=Ext.keep sx n4;have s_r0:=Ext.keep sx r0;have s_r1:=Ext.keep sx r1;have s_q0:=Ext.keep sx q0;have s_t0:=Ext.keep sx t0;have s_t1:=Ext.keep sx t1;have s_oc0:=Ext.keep sx oc0;go_simp;(try with_reducible rfl))
   try simp only [Act.put,aput]
   refine anyBut_take (L:=20) (by kernel_rfl) (by decide) (i:=14) (v:=?_) rfl (by kernel_rfl) (by kernel_rfl) (by kernel_rfl) (fun _ _ _ h=>h) (Or.inl ⟨by rfl,?_⟩) (by assumption) ?_
   rotate_left
   ·(intro w hSw;clear hSw;go_simp;(try with_reducible rfl))
   try simp only [Act.put,aput]
   refine anyBut_take (L:=20) (by kernel_rfl) (by decide) (i:=15) (v:=?_) rfl (by kernel_rfl) (by kernel_rfl) (by kernel_rfl) (fun _ _ _ h=>h) (Or.inl ⟨by rfl,?_⟩) (by assumption) ?_
   rotate_left
   ·(intro w hSw;(try dsimp only at hSw);obtain ⟨bx0,sx⟩:=hSw;have c0_0:=(bx0 0 _ rfl).1;have c0_1:=(bx0 1 _ rfl).1;have s_n2:=Ext.keep sx n2;have s_n4:=Ext.keep sx n4;have s_r0:=Ext.keep sx r0;have s_r1:=Ext.keep sx r1;have s_q0:=Ext.keep sx q0;have s_t0:=Ext.keep sx t0;have s_t1:=Ext.keep sx t1;have s_oc0:=Ext.keep sx oc0;go_simp;(try with_reducible rfl))
   try simp only [Act.put,aput]
   refine anyBut_take (L:=20) (by kernel_rfl) (by decide) (i:=16) (v:=?_) rfl (by kernel_rfl) (by kernel_rfl) (by kernel_rfl) (fun _ _ _ h=>h) (Or.inl ⟨by rfl,?_⟩) (by assumption) ?_
   rotate_left
   ·(intro w hSw;clear hSw;go_simp;(try with_reducible rfl))
   try simp only [Act.put,aput]
   refine anyBut_take (L:=20) (by kernel_rfl) (by decide) (i:=17) (v:=?_) rfl (by kernel_rfl) (by kernel_rfl) (by kernel_rfl) (fun _ _ _ h=>h) (Or.inl ⟨by rfl,?_⟩) (by assumption) ?_
   rotate_left
   ·(intro w hSw;(try dsimp only at hSw);obtain ⟨bx0,sx⟩:=hSw;have c0_0:=(bx0 0 _ rfl).1;have c0_1:=(bx0 1 _ rfl).1;have s_n2:=Ext.keep sx n2;have s_n4:=Ext.keep sx n4;have s_r0:=Ext.keep sx r0;have s_r1:=Ext.keep sx r1;have s_q0:=Ext.keep sx q0;have s_t0:=Ext.keep sx t0;have s_t1:=Ext.keep sx t1;have s_oc0:=Ext.keep sx oc0;go_simp;(try with_reducible rfl))
   try simp only [Act.put,aput]
   refine anyBut_take (L:=20) (by kernel_rfl) (by decide) (i:=18) (v:=?_) rfl (by kernel_rfl) (by kernel_rfl) (by kernel_rfl) (fun _ _ _ h=>h) (Or.inl ⟨by rfl,?_⟩) (by assumption) ?_
   rotate_left
   ·(intro w hSw;clear hSw;go_simp;(try with_reducible rfl))
   try simp only [Act.put,aput]
   refine anyBut_take (L:=20) (by kernel_rfl) (by decide) (i:=19) (v:=?_) rfl (by kernel_rfl) (by kernel_rfl) (by kernel_rfl) (fun _ _ _ h=>h) (Or.inl ⟨by rfl,?_⟩) (by assumption) ?_
   rotate_left
   ·(intro w hSw;clear hSw;go_simp;(try with_reducible rfl))
   try simp only [Act.put,aput]
   refine anyBut_last (by kernel_rfl) rfl (by kernel_rfl) (fun K hK=>?_)
   go_simp
   refine hK _ _ ?_
   clear hK K
   all_goals go_wp2
   go_roundw
   case rel=>exact ⟨j+1,rfl,by omega,hw1,hg2⟩
   ·simp only [intOf];omega
  ·have hje:j=(portsL b l).length:=by omega
   subst hje
   have hcl:=countsTo_len s b (portsL b l) (portsL b l).length
   have hcb:=countsTo_bd s b (portsL b l) _ (Nat.le_refl _)
   have HO:Hid (onL s b l=countsTo s b (portsL b l) (portsL b l).length):=Lib.hid rfl
   have hfin:=own_ints (lo:=w.heap.size) (c:=countsTo s b (portsL b l) (portsL b l).length) (by rw [hcl];exact own) hszx (fun x hx=>by have:=hcb x hx;unfold I64;omega)
   rw [hcl,← HO.out] at hfin
   clear hcb own
   go_wp2
   go_ret
   exact ⟨_,rfl,hfin,hX⟩
end Go.Proofs.YtccjepndhlobpaaGreatDoor

/-
  Walks: all faults, by the program.
-/
namespace Go.Proofs.YtccjepndhlobpaaGreatDoor
open Go.RowKit
set_option linter.unusedVariables false
set_option linter.unusedSimpArgs false
theorem i64_lit1:I64 1:=by unfold I64;omega
theorem i64_lit2:I64 2:=by unfold I64;omega
theorem i64_neg {n:Int} (h : -9223372036854775808≤n∧n≤9223372036854775807) (h2:n<0):I64 (-1 - n):=by unfold I64;omega
attribute [local irreducible] inR hasI allowedL portsL countsTo sortOf manyF apartF placedL linkFlts onL
set_option maxRecDepth 100000 in
set_option maxHeartbeats 3200000 in
theorem c_impl_Sorting_faults (lo hi lo' hi':Nat) (cs ds:List Value) (sig:List Ctl) (s:Srt) (b:Big) (w:World) (hs:SrtP lo hi w cs s) (h:BigP lo' hi' w ds b) (hsB:sortB sig s=true) (hbB:bigB sig b=true) (hal:s.apart.length≤1048576) :
 Calls Tryz.prog 123 #[.agg cs.toArray,.agg ds.toArray] w fun e w'=>∃v,e=.returned v∧SlV 3 FltP w.heap.size w'.heap.size w' v (faultsL s b)∧Ext w w':=by
 have hSS:=hs
 have hBB:=h
 obtain ⟨u0,u1,u2,u3,u4,rfl,hT,hNe,hSo,hM,hA⟩:=hs
 obtain ⟨a3,k3,rfl,o1,o2,o3,_⟩:=hM
 obtain ⟨a5,k5,rfl,x1,x2,x3,_⟩:=hA
 obtain ⟨v1,v2,v4,v5,rfl,r1,r2,hN,hS,hO,hI⟩:=h
 obtain ⟨a1,k1,rfl,g1,g2,g3,g4⟩:=hN
 obtain ⟨a4,k4,rfl,y1,y2,y3,_⟩:=hO
 unfold maxLen at g2 y2 o2 x2
 have D:=dims_of hbB
 have hdn:=D.nodes
 have hee:=inR_le D.edges
 have hdo:=D.outer
 have hml:=most_le hsB
 have hll:=links_le hbB
 have HSB:=Lib.hid hsB
 have HBB:=Lib.hid hbB
 have HD:=Lib.hid D
 clear hsB hbB D
 obtain ⟨i0,hi0,hz0,hz1,hz2⟩:=infoFlt
 obtain ⟨W0,hW0,hbx,hx0,hz⟩:=box_facts w [u0,u1,u2,.slice a3 s.most.length k3,.slice a5 s.apart.length k5] 39
 obtain ⟨W1,hW1,hbx1,hx1,hzz⟩:=box_facts W0 [.int .i64 b.roots,.slice a1 b.nodes.length k1,v2,.int .i64 b.edges,.slice a4 b.outer.length k4,v5] 44
 have p0:=hx1.keep (hbx 0 _ rfl).1
 have p1:=hx1.keep (hbx 1 _ rfl).1
 have p2:=hx1.keep (hbx 2 _ rfl).1
 have p3:=hx1.keep (hbx 3 _ rfl).1
 have p4:=hx1.keep (hbx 4 _ rfl).1
 have s0:=(hbx1 0 _ rfl).1
 have s1:=(hbx1 1 _ rfl).1
 have s2:=(hbx1 2 _ rfl).1
 have s3:=(hbx1 3 _ rfl).1
 have s4:=(hbx1 4 _ rfl).1
 have s5:=(hbx1 5 _ rfl).1
 have hza:w.heap.size<W0.heap.size:=by omega
 have hzb:W0.heap.size<W1.heap.size:=by omega
 clear hz hzz hbx hbx1
 have hx:=hx0.trans hx1
 replace hSS:=SrtP.keeps _ _ _ _ _ _ (Same.ext hx) hSS
 replace hBB:=BigP.keeps _ _ _ _ _ _ (Same.ext hx) hBB
 have hrow0:RowL 3 FltP 154 W1.heap.size (W1.alloc (.cells #[] 154)) (.slice (some ⟨W1.heap.size,0,none⟩) 0 0) []:=RowL.made (Nat.le_refl _)
 go_enter Tryz.func123,Tryz.ntmps123
 go_wp2
 go_loopw [13,5] (fun k v wr=>∃i:Nat,k=.int .i64 i∧i≤b.nodes.length∧RowL 3 FltP 154 W1.heap.size wr v (faultsN s b i)∧Ext W1 wr) (fun k _ _=>b.nodes.length - (intOf k).toNat)
 case atStart=>exact ⟨0,rfl,Nat.zero_le _,hrow0,xw⟩
 case round=>
  obtain ⟨i,rfl,hin,hrow,hxr⟩:=hrel
  have n0:=hxr.keep p0
  have n1:=hxr.keep p1
  have n2:=hxr.keep p2
  have n3:=hxr.keep p3
  have n4:=hxr.keep p4
  have m0:=hxr.keep s0
  have m1:=hxr.keep s1
  have m2:=hxr.keep s2
  have m3:=hxr.keep s3
  have m4:=hxr.keep s4
  have m5:=hxr.keep s5
  have hSSr:=SrtP.keeps _ _ _ _ _ _ (Same.ext hxr) hSS
  have hBBr:=BigP.keeps _ _ _ _ _ _ (Same.ext hxr) hBB
  have hX:Ext w wr:=hx.trans hxr
  by_cases hlt:i<b.nodes.length
  ·have HT:=Lib.hid (faultsN_succ s b i)
   have hL:=faultsN_len s b i
   have hP1:=placedL_len s b i
   have hsz:=Below.size hxr
   have hsz:=Below.size hxr
   have hpar:=par_ok HSB.out HBB.out i hlt
   have hnd:=ndAt_nat b i hlt
   have HT:=Lib.hid (faultsN_succ s b i)
   have hL:=faultsN_len s b i
   have HPL:Hid (placedL s b i=if hasI (allowedL s b (ndAt b i).parent) (ndAt b i).control then [] else if (ndAt b i).parent<0 then [(1,(i:Int),-1 - (ndAt b i).parent)] else [(2,(i:Int),(ndAt b i).parent)]):=Lib.hid (by unfold placedL;rfl)
   rw [hnd] at HPL
   clear hnd
   rcases g4 with g4|⟨b1,o1',rfl,gb1,gb2,g4⟩
   ·rw [g4] at hlt;simp at hlt
   obtain ⟨es,hel,hnp,hcs⟩:=g4 i hlt
   generalize b.nodes[i]=nd at hnp HPL hpar
   obtain ⟨nc,np,nl⟩:=nd
   dsimp only at *
   obtain ⟨nv,rfl,e1,e2,e3⟩:=hnp
   have q0:=hX.keep (hcs 0 _ rfl)
   have q1:=hX.keep (hcs 1 _ rfl)
   have q2:=hX.keep (hcs 2 _ rfl)
   rw [Nat.add_zero] at q0
   obtain ⟨la,lk,rfl,z1,z2,z3,z4⟩:=e3
   clear hcs g4 z4
   unfold I64 at e2
   have HPA:=Lib.hid hpar
   clear hpar
   cases hh:hasI (allowedL s b np) nc
   ·have HH:=Lib.hid hh
    clear hh
    by_cases hneg:np<0
    ·have HV:=Lib.hid (show placedL s b i = [(1,(i:Int),-1 - np)] by rw [HPL.out,HH.out,if_neg (by decide),if_pos hneg])
     have hd:decide (np<0)=true:=decide_eq_true hneg
     go_wp2_with fail
     refine wp_region_held_drew (S:=(fun w'=>BoxAt w' wr.heap.size [.int .i64 nc,.int .i64 np,.slice la nl.length lk]∧Ext wr w')) (by kernel_rfl) ?_ (fun hHeld=>?_)
     ·(refine ⟨?_,xw⟩;all_goals (intro j u hj;rcases j with _|_|_|_|_|_|_|_|j <;> simp at hj <;> (subst hj;simp)))
     refine tkY 0 ?_ ?_ ?_;rotate_left;focus (intro w hSw;(try dsimp only at hSw);obtain ⟨bx0,sx⟩:=hSw;have c0_0:=(bx0 0 _ rfl).1;have c0_1:=(bx0 1 _ rfl).1;have c0_2:=(bx0 2 _ rfl).1;have s_n0:=Ext.keep sx n0;have s_n1:=Ext.keep sx n1;have s_n2:=Ext.keep sx n2;have s_n3:=Ext.keep sx n3;have s_n4:=Ext.keep sx n4;have s_m0:=Ext.keep sx m0;have s_m1:=Ext.keep sx m1;have s_m2:=Ext.keep sx m2;have s_m3:=Ext.keep sx m3;have s_m4:=Ext.keep sx m4;have s_m5:=Ext.keep sx m5;go_simp;try with_reducible rfl)
     try simp only [Act.put,aput]
     refine tkY 1 ?_ ?_ ?_;rotate_left;focus (intro w hSw;(try dsimp only at hSw);obtain ⟨bx0,sx⟩:=hSw;have c0_0:=(bx0 0 _ rfl).1;have c0_1:=(bx0 1 _ rfl).1;have c0_2:=(bx0 2 _ rfl).1;have s_n0:=Ext.keep sx n0;have s_n1:=Ext.keep sx n1;have s_n2:=Ext.keep sx n2;have s_n3:=Ext.keep sx n3;have s_n4:=Ext.keep sx n4;have s_m0:=Ext.keep sx m0;have s_m1:=Ext.keep sx m1;have s_m2:=Ext.keep sx m2;have s_m3:=Ext.keep sx m3;have s_m4:=Ext.keep sx m4;have s_m5:=Ext.keep sx m5;go_simp;try with_reducible rfl)
     try simp only [Act.put,aput]
     refine tkP 2 ?_ ?_ ?_;rotate_left;focus (intro w;go_simp;try with_reducible rfl)
     try simp only [Act.put,aput]
     refine tkY 3 ?_ ?_ ?_;rotate_left;focus (intro w hSw;(try dsimp only at hSw);obtain ⟨bx0,sx⟩:=hSw;have c0_0:=(bx0 0 _ rfl).1;have c0_1:=(bx0 1 _ rfl).1;have c0_2:=(bx0 2 _ rfl).1;have s_n0:=Ext.keep sx n0;have s_n1:=Ext.keep sx n1;have s_n2:=Ext.keep sx n2;have s_n3:=Ext.keep sx n3;have s_n4:=Ext.keep sx n4;have s_m0:=Ext.keep sx m0;have s_m1:=Ext.keep sx m1;have s_m2:=Ext.keep sx m2;have s_m3:=Ext.keep sx m3;have s_m4:=Ext.keep sx m4;have s_m5:=Ext.keep sx m5;go_simp;try with_reducible rfl)
     try simp only [Act.put,aput]
     refine tkP 5 ?_ ?_ ?_;rotate_left;focus (intro w;go_simp;try with_reducible rfl)
     try simp only [Act.put,aput]
     refine tkY 6 ?_ ?_ ?_;rotate_left;focus (intro w hSw;(try dsimp only at hSw);obtain ⟨bx0,sx⟩:=hSw;have c0_0:=(bx0 0 _ rfl).1;have c0_1:=(bx0 1 _ rfl).1;have c0_2:=(bx0 2 _ rfl).1;have s_n0:=Ext.keep sx n0;have s_n1:=Ext.keep sx n1;have s_n2:=Ext.keep sx n2;have s_n3:=Ext.keep sx n3;have s_n4:=Ext.keep sx n4;have s_m0:=Ext.keep sx m0;have s_m1:=Ext.keep sx m1;have s_m2:=Ext.keep sx m2;have s_m3:=Ext.keep sx m3;have s_m4:=Ext.keep sx m4;have s_m5:=Ext.keep sx m5;go_simp;try with_reducible rfl)
     try simp only [Act.put,aput]
     refine wpAnyH_ready (rs:=[4]) (by kernel_rfl) (by simp) ?_
     refine AllReadyH.cons rfl (fun K hK=>?_) AllReadyH.nil
     (try simp only [aput])
     go_simp
     (have hSw:=hHeld;(try dsimp only at hSw);obtain ⟨bx0,sx⟩:=hSw;have c0_0:=(bx0 0 _ rfl).1;have c0_1:=(bx0 1 _ rfl).1;have c0_2:=(bx0 2 _ rfl).1;have s_n0:=Ext.keep sx n0;have s_n1:=Ext.keep sx n1;have s_n2:=Ext.keep sx n2;have s_n3:=Ext.keep sx n3;have s_n4:=Ext.keep sx n4;have s_m0:=Ext.keep sx m0;have s_m1:=Ext.keep sx m1;have s_m2:=Ext.keep sx m2;have s_m3:=Ext.keep sx m3;have s_m4:=Ext.keep sx m4;have s_m5:=Ext.keep sx m5;have s_hSSr:=SrtP.keeps _ _ _ _ _ _ (Same.ext sx) hSSr;have s_hBBr:=BigP.keeps _ _ _ _ _ _ (Same.ext sx) hBBr;(go_at_call 188;refine (c_impl_Sorting_choices lo hi lo' hi' _ _ s b np _ s_hSSr s_hBBr HPA.out).mono ?_;rintro e y ⟨vA,rfl,hVA,hb⟩))
     show K _ _
     refine hK.out _ _ (by (have hh:=hHeld;(try dsimp only at hh);exact ⟨hh.1.ext hb,hh.2.trans hb⟩)) (fun hHeld=>?_)
     clear hK K
     try simp only [Act.put,aput]
     refine wpAnyH_ready (rs:=[7]) (by kernel_rfl) (by simp) ?_
     refine AllReadyH.cons rfl (fun K hK=>?_) AllReadyH.nil
     (try simp only [aput])
     go_simp
     (go_at_call 187;refine (c_slices_Contains_int_int lo hi _ (allowedL s b np) nc _ hVA).mono ?_;rintro e y ⟨rfl,hb⟩;rw [HH.out])
     show K _ _
     refine hK.out _ _ (by (have hh:=hHeld;(try dsimp only at hh);exact ⟨hh.1.ext hb,hh.2.trans hb⟩)) (fun hHeld=>?_)
     clear hK K
     try simp only [Act.put,aput]
     refine tkP 8 ?_ ?_ ?_;rotate_left;focus (intro w;go_simp;try with_reducible rfl)
     try simp only [Act.put,aput]
     refine wpAnyH_done (by kernel_rfl) ?_ _
     have hrY:=hrow.ext FltP.keeps hHeld.2
     have hszY:=Below.size hHeld.2
     have hxY:=hxr.trans hHeld.2
     have bxY:=hHeld.1
     have bq1:=(bxY 1 _ rfl).1
     go_wp2_with (at_builtin;refine wpList_append_row2 FltP.keeps rfl (.tmp 38) (.tmp 44) 138 rfl (W1.heap.size) 154 i0 _ 24 Tryz.underlying138 hi0 hz0 hz1 hz2 rfl (by decide) _ _ (by rfl) (hrY.ext FltP.keeps xw) ⟨_,0,none⟩ 1 [.int .i64 1,.int .i64 i,.int .i64 (-1 - np)] rfl rfl (one_cell (by simp)) (by simp [Value.oneCell']) (W1.heap.size) (W1.heap.size) (Nat.le_refl _) (by first|omega|(simp;omega)) (fun g hg=>.inr (hrY.block g hg).1) (((1,(i:Int),-1 - np):Flt)) ⟨rfl,i64_lit1,i64_nat (by omega),i64_neg e2 hneg⟩ (by first|omega|(simp;omega)) (by decide) (by first|omega|(simp;omega)) ?_;intro v3 w3 row3 ext3 gro3 own3)
     have hx3:=ext3 W1 xw (Nat.le_refl _)
     go_roundw
     case rel=>exact ⟨i+1,rfl,by omega,by rw [HT.out,HV.out];exact row3,hx3⟩
     ·simp only [intOf];omega
    ·have HV:=Lib.hid (show placedL s b i = [(2,(i:Int),np)] by rw [HPL.out,HH.out,if_neg (by decide),if_neg hneg])
     have hd:decide (np<0)=false:=decide_eq_false hneg
     go_wp2_with fail
     refine wp_region_held_drew (S:=(fun w'=>BoxAt w' wr.heap.size [.int .i64 nc,.int .i64 np,.slice la nl.length lk]∧Ext wr w')) (by kernel_rfl) ?_ (fun hHeld=>?_)
     ·(refine ⟨?_,xw⟩;all_goals (intro j u hj;rcases j with _|_|_|_|_|_|_|_|j <;> simp at hj <;> (subst hj;simp)))
     refine tkY 0 ?_ ?_ ?_;rotate_left;focus (intro w hSw;(try dsimp only at hSw);obtain ⟨bx0,sx⟩:=hSw;have c0_0:=(bx0 0 _ rfl).1;have c0_1:=(bx0 1 _ rfl).1;have c0_2:=(bx0 2 _ rfl).1;have s_n0:=Ext.keep sx n0;have s_n1:=Ext.keep sx n1;have s_n2:=Ext.keep sx n2;have s_n3:=Ext.keep sx n3;have s_n4:=Ext.keep sx n4;have s_m0:=Ext.keep sx m0;have s_m1:=Ext.keep sx m1;have s_m2:=Ext.keep sx m2;have s_m3:=Ext.keep sx m3;have s_m4:=Ext.keep sx m4;have s_m5:=Ext.keep sx m5;go_simp;try with_reducible rfl)
     try simp only [Act.put,aput]
     refine tkY 1 ?_ ?_ ?_;rotate_left;focus (intro w hSw;(try dsimp only at hSw);obtain ⟨bx0,sx⟩:=hSw;have c0_0:=(bx0 0 _ rfl).1;have c0_1:=(bx0 1 _ rfl).1;have c0_2:=(bx0 2 _ rfl).1;have s_n0:=Ext.keep sx n0;have s_n1:=Ext.keep sx n1;have s_n2:=Ext.keep sx n2;have s_n3:=Ext.keep sx n3;have s_n4:=Ext.keep sx n4;have s_m0:=Ext.keep sx m0;have s_m1:=Ext.keep sx m1;have s_m2:=Ext.keep sx m2;have s_m3:=Ext.keep sx m3;have s_m4:=Ext.keep sx m4;have s_m5:=Ext.keep sx m5;go_simp;try with_reducible rfl)
     try simp only [Act.put,aput]
     refine tkP 2 ?_ ?_ ?_;rotate_left;focus (intro w;go_simp;try with_reducible rfl)
     try simp only [Act.put,aput]
     refine tkY 3 ?_ ?_ ?_;rotate_left;focus (intro w hSw;(try dsimp only at hSw);obtain ⟨bx0,sx⟩:=hSw;have c0_0:=(bx0 0 _ rfl).1;have c0_1:=(bx0 1 _ rfl).1;have c0_2:=(bx0 2 _ rfl).1;have s_n0:=Ext.keep sx n0;have s_n1:=Ext.keep sx n1;have s_n2:=Ext.keep sx n2;have s_n3:=Ext.keep sx n3;have s_n4:=Ext.keep sx n4;have s_m0:=Ext.keep sx m0;have s_m1:=Ext.keep sx m1;have s_m2:=Ext.keep sx m2;have s_m3:=Ext.keep sx m3;have s_m4:=Ext.keep sx m4;have s_m5:=Ext.keep sx m5;go_simp;try with_reducible rfl)
     try simp only [Act.put,aput]
     refine tkP 5 ?_ ?_ ?_;rotate_left;focus (intro w;go_simp;try with_reducible rfl)
     try simp only [Act.put,aput]
     refine tkY 6 ?_ ?_ ?_;rotate_left;focus (intro w hSw;(try dsimp only at hSw);obtain ⟨bx0,sx⟩:=hSw;have c0_0:=(bx0 0 _ rfl).1;have c0_1:=(bx0 1 _ rfl).1;have c0_2:=(bx0 2 _ rfl).1;have s_n0:=Ext.keep sx n0;have s_n1:=Ext.keep sx n1;have s_n2:=Ext.keep sx n2;have s_n3:=Ext.keep sx n3;have s_n4:=Ext.keep sx n4;have s_m0:=Ext.keep sx m0;have s_m1:=Ext.keep sx m1;have s_m2:=Ext.keep sx m2;have s_m3:=Ext.keep sx m3;have s_m4:=Ext.keep sx m4;have s_m5:=Ext.keep sx m5;go_simp;try with_reducible rfl)
     try simp only [Act.put,aput]
     refine wpAnyH_ready (rs:=[4]) (by kernel_rfl) (by simp) ?_
     refine AllReadyH.cons rfl (fun K hK=>?_) AllReadyH.nil
     (try simp only [aput])
     go_simp
     (have hSw:=hHeld;(try dsimp only at hSw);obtain ⟨bx0,sx⟩:=hSw;have c0_0:=(bx0 0 _ rfl).1;have c0_1:=(bx0 1 _ rfl).1;have c0_2:=(bx0 2 _ rfl).1;have s_n0:=Ext.keep sx n0;have s_n1:=Ext.keep sx n1;have s_n2:=Ext.keep sx n2;have s_n3:=Ext.keep sx n3;have s_n4:=Ext.keep sx n4;have s_m0:=Ext.keep sx m0;have s_m1:=Ext.keep sx m1;have s_m2:=Ext.keep sx m2;have s_m3:=Ext.keep sx m3;have s_m4:=Ext.keep sx m4;have s_m5:=Ext.keep sx m5;have s_hSSr:=SrtP.keeps _ _ _ _ _ _ (Same.ext sx) hSSr;have s_hBBr:=BigP.keeps _ _ _ _ _ _ (Same.ext sx) hBBr;(go_at_call 188;refine (c_impl_Sorting_choices lo hi lo' hi' _ _ s b np _ s_hSSr s_hBBr HPA.out).mono ?_;rintro e y ⟨vA,rfl,hVA,hb⟩))
     show K _ _
     refine hK.out _ _ (by (have hh:=hHeld;(try dsimp only at hh);exact ⟨hh.1.ext hb,hh.2.trans hb⟩)) (fun hHeld=>?_)
     clear hK K
     try simp only [Act.put,aput]
     refine wpAnyH_ready (rs:=[7]) (by kernel_rfl) (by simp) ?_
     refine AllReadyH.cons rfl (fun K hK=>?_) AllReadyH.nil
     (try simp only [aput])
     go_simp
     (go_at_call 187;refine (c_slices_Contains_int_int lo hi _ (allowedL s b np) nc _ hVA).mono ?_;rintro e y ⟨rfl,hb⟩;rw [HH.out])
     show K _ _
     refine hK.out _ _ (by (have hh:=hHeld;(try dsimp only at hh);exact ⟨hh.1.ext hb,hh.2.trans hb⟩)) (fun hHeld=>?_)
     clear hK K
     try simp only [Act.put,aput]
     refine tkP 8 ?_ ?_ ?_;rotate_left;focus (intro w;go_simp;try with_reducible rfl)
     try simp only [Act.put,aput]
     refine wpAnyH_done (by kernel_rfl) ?_ _
     have hrY:=hrow.ext FltP.keeps hHeld.2
     have hszY:=Below.size hHeld.2
     have hxY:=hxr.trans hHeld.2
     have bxY:=hHeld.1
     have bq1:=(bxY 1 _ rfl).1
     go_wp2_with (at_builtin;refine wpList_append_row2 FltP.keeps rfl (.tmp 18) (.tmp 23) 138 rfl (W1.heap.size) 154 i0 _ 24 Tryz.underlying138 hi0 hz0 hz1 hz2 rfl (by decide) _ _ (by rfl) (hrY.ext FltP.keeps xw) ⟨_,0,none⟩ 1 [.int .i64 2,.int .i64 i,.int .i64 np] rfl rfl (one_cell (by simp)) (by simp [Value.oneCell']) (W1.heap.size) (W1.heap.size) (Nat.le_refl _) (by first|omega|(simp;omega)) (fun g hg=>.inr (hrY.block g hg).1) (((2,(i:Int),np):Flt)) ⟨rfl,i64_lit2,i64_nat (by omega),e2⟩ (by first|omega|(simp;omega)) (by decide) (by first|omega|(simp;omega)) ?_;intro v3 w3 row3 ext3 gro3 own3)
     have hx3:=ext3 W1 xw (Nat.le_refl _)
     go_roundw
     case rel=>exact ⟨i+1,rfl,by omega,by rw [HT.out,HV.out];exact row3,hx3⟩
     ·simp only [intOf];omega
   ·have HH:=Lib.hid hh
    have HV:=Lib.hid (show placedL s b i = [] by rw [HPL.out,HH.out,if_pos rfl])
    clear hh
    go_wp2_with fail
    refine wp_region_held_drew (S:=(fun w'=>BoxAt w' wr.heap.size [.int .i64 nc,.int .i64 np,.slice la nl.length lk]∧Ext wr w')) (by kernel_rfl) ?_ (fun hHeld=>?_)
    ·(refine ⟨?_,xw⟩;all_goals (intro j u hj;rcases j with _|_|_|_|_|_|_|_|j <;> simp at hj <;> (subst hj;simp)))
    refine tkY 0 ?_ ?_ ?_;rotate_left;focus (intro w hSw;(try dsimp only at hSw);obtain ⟨bx0,sx⟩:=hSw;have c0_0:=(bx0 0 _ rfl).1;have c0_1:=(bx0 1 _ rfl).1;have c0_2:=(bx0 2 _ rfl).1;have s_n0:=Ext.keep sx n0;have s_n1:=Ext.keep sx n1;have s_n2:=Ext.keep sx n2;have s_n3:=Ext.keep sx n3;have s_n4:=Ext.keep sx n4;have s_m0:=Ext.keep sx m0;have s_m1:=Ext.keep sx m1;have s_m2:=Ext.keep sx m2;have s_m3:=Ext.keep sx m3;have s_m4:=Ext.keep sx m4;have s_m5:=Ext.keep sx m5;go_simp;try with_reducible rfl)
    try simp only [Act.put,aput]
    refine tkY 1 ?_ ?_ ?_;rotate_left;focus (intro w hSw;(try dsimp only at hSw);obtain ⟨bx0,sx⟩:=hSw;have c0_0:=(bx0 0 _ rfl).1;have c0_1:=(bx0 1 _ rfl).1;have c0_2:=(bx0 2 _ rfl).1;have s_n0:=Ext.keep sx n0;have s_n1:=Ext.keep sx n1;have s_n2:=Ext.keep sx n2;have s_n3:=Ext.keep sx n3;have s_n4:=Ext.keep sx n4;have s_m0:=Ext.keep sx m0;have s_m1:=Ext.keep sx m1;have s_m2:=Ext.keep sx m2;have s_m3:=Ext.keep sx m3;have s_m4:=Ext.keep sx m4;have s_m5:=Ext.keep sx m5;go_simp;try with_reducible rfl)
    try simp only [Act.put,aput]
    refine tkP 2 ?_ ?_ ?_;rotate_left;focus (intro w;go_simp;try with_reducible rfl)
    try simp only [Act.put,aput]
    refine tkY 3 ?_ ?_ ?_;rotate_left;focus (intro w hSw;(try dsimp only at hSw);obtain ⟨bx0,sx⟩:=hSw;have c0_0:=(bx0 0 _ rfl).1;have c0_1:=(bx0 1 _ rfl).1;have c0_2:=(bx0 2 _ rfl).1;have s_n0:=Ext.keep sx n0;have s_n1:=Ext.keep sx n1;have s_n2:=Ext.keep sx n2;have s_n3:=Ext.keep sx n3;have s_n4:=Ext.keep sx n4;have s_m0:=Ext.keep sx m0;have s_m1:=Ext.keep sx m1;have s_m2:=Ext.keep sx m2;have s_m3:=Ext.keep sx m3;have s_m4:=Ext.keep sx m4;have s_m5:=Ext.keep sx m5;go_simp;try with_reducible rfl)
    try simp only [Act.put,aput]
    refine tkP 5 ?_ ?_ ?_;rotate_left;focus (intro w;go_simp;try with_reducible rfl)
    try simp only [Act.put,aput]
    refine tkY 6 ?_ ?_ ?_;rotate_left;focus (intro w hSw;(try dsimp only at hSw);obtain ⟨bx0,sx⟩:=hSw;have c0_0:=(bx0 0 _ rfl).1;have c0_1:=(bx0 1 _ rfl).1;have c0_2:=(bx0 2 _ rfl).1;have s_n0:=Ext.keep sx n0;have s_n1:=Ext.keep sx n1;have s_n2:=Ext.keep sx n2;have s_n3:=Ext.keep sx n3;have s_n4:=Ext.keep sx n4;have s_m0:=Ext.keep sx m0;have s_m1:=Ext.keep sx m1;have s_m2:=Ext.keep sx m2;have s_m3:=Ext.keep sx m3;have s_m4:=Ext.keep sx m4;have s_m5:=Ext.keep sx m5;go_simp;try with_reducible rfl)
    try simp only [Act.put,aput]
    refine wpAnyH_ready (rs:=[4]) (by kernel_rfl) (by simp) ?_
    refine AllReadyH.cons rfl (fun K hK=>?_) AllReadyH.nil
    (try simp only [aput])
    go_simp
    (have hSw:=hHeld;(try dsimp only at hSw);obtain ⟨bx0,sx⟩:=hSw;have c0_0:=(bx0 0 _ rfl).1;have c0_1:=(bx0 1 _ rfl).1;have c0_2:=(bx0 2 _ rfl).1;have s_n0:=Ext.keep sx n0;have s_n1:=Ext.keep sx n1;have s_n2:=Ext.keep sx n2;have s_n3:=Ext.keep sx n3;have s_n4:=Ext.keep sx n4;have s_m0:=Ext.keep sx m0;have s_m1:=Ext.keep sx m1;have s_m2:=Ext.keep sx m2;have s_m3:=Ext.keep sx m3;have s_m4:=Ext.keep sx m4;have s_m5:=Ext.keep sx m5;have s_hSSr:=SrtP.keeps _ _ _ _ _ _ (Same.ext sx) hSSr;have s_hBBr:=BigP.keeps _ _ _ _ _ _ (Same.ext sx) hBBr;(go_at_call 188;refine (c_impl_Sorting_choices lo hi lo' hi' _ _ s b np _ s_hSSr s_hBBr HPA.out).mono ?_;rintro e y ⟨vA,rfl,hVA,hb⟩))
    show K _ _
    refine hK.out _ _ (by (have hh:=hHeld;(try dsimp only at hh);exact ⟨hh.1.ext hb,hh.2.trans hb⟩)) (fun hHeld=>?_)
    clear hK K
    try simp only [Act.put,aput]
    refine wpAnyH_ready (rs:=[7]) (by kernel_rfl) (by simp) ?_
    refine AllReadyH.cons rfl (fun K hK=>?_) AllReadyH.nil
    (try simp only [aput])
    go_simp
    (go_at_call 187;refine (c_slices_Contains_int_int lo hi _ (allowedL s b np) nc _ hVA).mono ?_;rintro e y ⟨rfl,hb⟩;rw [HH.out])
    show K _ _
    refine hK.out _ _ (by (have hh:=hHeld;(try dsimp only at hh);exact ⟨hh.1.ext hb,hh.2.trans hb⟩)) (fun hHeld=>?_)
    clear hK K
    try simp only [Act.put,aput]
    refine tkP 8 ?_ ?_ ?_;rotate_left;focus (intro w;go_simp;try with_reducible rfl)
    try simp only [Act.put,aput]
    refine wpAnyH_done (by kernel_rfl) ?_ _
    have hrY:=hrow.ext FltP.keeps hHeld.2
    have hxY:=hxr.trans hHeld.2
    go_wp2
    go_roundw
    case rel=>exact ⟨i+1,rfl,by omega,by rw [HT.out,HV.out,List.append_nil];exact hrY,hxY⟩
    ·simp only [intOf];omega
  ·have e:i=b.nodes.length:=by omega
   subst e
   have hLN:=faultsN_len s b b.nodes.length
   have hln:((linksN b:Nat):Int)=b.edges+b.outer.length:=by unfold linksN;omega
   have hln1:((linksN b:Nat):Int)≤b.edges+b.outer.length:=by omega
   have hln2:b.edges+b.outer.length≤((linksN b:Nat):Int):=by omega
   clear hln hrow0
   go_wp2
   go_loopw [53,5] (fun k v wr=>∃i:Nat,k=.int .i64 i∧i≤linksN b∧RowL 3 FltP 154 W1.heap.size wr v (faultsN s b b.nodes.length++faultsK s b i)∧Ext W1 wr) (fun k _ _=>linksN b - (intOf k).toNat)
   case atStart=>exact ⟨0,rfl,Nat.zero_le _,by simpa [faultsK] using hrow,hxr⟩
   case round=>
    clear hrow
    obtain ⟨i,rfl,hin,hrow,hxr⟩:=hrel
    have n0:=hxr.keep p0
    have n1:=hxr.keep p1
    have n2:=hxr.keep p2
    have n3:=hxr.keep p3
    have n4:=hxr.keep p4
    have m0:=hxr.keep s0
    have m1:=hxr.keep s1
    have m2:=hxr.keep s2
    have m3:=hxr.keep s3
    have m4:=hxr.keep s4
    have m5:=hxr.keep s5
    have hX:Ext w wr:=hx.trans hxr
    by_cases hlt:i<linksN b
    ·have HT:=Lib.hid (faultsK_succ s b i)
     have hL:=faultsK_len s b i hml.2 hal
     have hP1:=linkFlts_len s b i hml.2 hal
     have hLL:(faultsN s b b.nodes.length++faultsK s b i).length=(faultsN s b b.nodes.length).length+(faultsK s b i).length:=List.length_append
     have hL2:(faultsN s b b.nodes.length++faultsK s b i).length+(linkFlts s b i).length<100000000:=by omega
     clear hLL
     have HLF:Hid (linkFlts s b i=sharedL s (i:Int) (onL s b i)):=Lib.hid (by unfold linkFlts;rfl)
     have hsz:=Below.size hxr
     go_wp2_with fail
     refine wp_region_held_drew (S:=(fun w'=>Ext W1 w')) (by kernel_rfl) ?_ (fun hHeld=>?_)
     ·refine xw
     refine tkP 0 ?_ ?_ ?_;rotate_left;focus (intro w;go_simp;try with_reducible rfl)
     try simp only [Act.put,aput]
     refine tkY 1 ?_ ?_ ?_;rotate_left;focus (intro w hSw;(try dsimp only at hSw);have sx:=hSw;have s_p0:=Ext.keep sx p0;have s_p1:=Ext.keep sx p1;have s_p2:=Ext.keep sx p2;have s_p3:=Ext.keep sx p3;have s_p4:=Ext.keep sx p4;have s_s0:=Ext.keep sx s0;have s_s1:=Ext.keep sx s1;have s_s2:=Ext.keep sx s2;have s_s3:=Ext.keep sx s3;have s_s4:=Ext.keep sx s4;have s_s5:=Ext.keep sx s5;go_simp;try with_reducible rfl)
     try simp only [Act.put,aput]
     refine tkP 2 ?_ ?_ ?_;rotate_left;focus (intro w;go_simp;try with_reducible rfl)
     try simp only [Act.put,aput]
     refine tkY 3 ?_ ?_ ?_;rotate_left;focus (intro w hSw;(try dsimp only at hSw);have sx:=hSw;have s_p0:=Ext.keep sx p0;have s_p1:=Ext.keep sx p1;have s_p2:=Ext.keep sx p2;have s_p3:=Ext.keep sx p3;have s_p4:=Ext.keep sx p4;have s_s0:=Ext.keep sx s0;have s_s1:=Ext.keep sx s1;have s_s2:=Ext.keep sx s2;have s_s3:=Ext.keep sx s3;have s_s4:=Ext.keep sx s4;have s_s5:=Ext.keep sx s5;go_simp;try with_reducible rfl)
     try simp only [Act.put,aput]
     refine tkY 4 ?_ ?_ ?_;rotate_left;focus (intro w hSw;(try dsimp only at hSw);have sx:=hSw;have s_p0:=Ext.keep sx p0;have s_p1:=Ext.keep sx p1;have s_p2:=Ext.keep sx p2;have s_p3:=Ext.keep sx p3;have s_p4:=Ext.keep sx p4;have s_s0:=Ext.keep sx s0;have s_s1:=Ext.keep sx s1;have s_s2:=Ext.keep sx s2;have s_s3:=Ext.keep sx s3;have s_s4:=Ext.keep sx s4;have s_s5:=Ext.keep sx s5;go_simp;try with_reducible rfl)
     try simp only [Act.put,aput]
     refine tkP 5 ?_ ?_ ?_;rotate_left;focus (intro w;go_simp;try with_reducible rfl)
     try simp only [Act.put,aput]
     refine wpAnyH_ready (rs:=[6]) (by kernel_rfl) (by simp) ?_
     refine AllReadyH.cons rfl (fun K hK=>?_) AllReadyH.nil
     (try simp only [aput])
     go_simp
     (have hSw:=hHeld;(try dsimp only at hSw);have sx:=hSw;have s_p0:=Ext.keep sx p0;have s_p1:=Ext.keep sx p1;have s_p2:=Ext.keep sx p2;have s_p3:=Ext.keep sx p3;have s_p4:=Ext.keep sx p4;have s_s0:=Ext.keep sx s0;have s_s1:=Ext.keep sx s1;have s_s2:=Ext.keep sx s2;have s_s3:=Ext.keep sx s3;have s_s4:=Ext.keep sx s4;have s_s5:=Ext.keep sx s5;have s_hSS:=SrtP.keeps _ _ _ _ _ _ (Same.ext sx) hSS;have s_hBB:=BigP.keeps _ _ _ _ _ _ (Same.ext sx) hBB;(go_at_call 190;refine (c_impl_Sorting_sortsOn lo hi lo' hi' [u0,u1,u2,.slice a3 s.most.length k3,.slice a5 s.apart.length k5] [.int .i64 b.roots,.slice a1 b.nodes.length k1,v2,.int .i64 b.edges,.slice a4 b.outer.length k4,v5] s b i _ s_hSS s_hBB hdn HD.out.links HD.out.inner (by omega) (port_ok HSB.out HBB.out i)).mono ?_;rintro e y ⟨vc,rfl,hVC,hb⟩;have hrA:=hrow.ext FltP.keeps (((Ext.refl wr).drew).trans hb)))
     show K _ _
     refine hK.out _ _ (by (have hh:=hHeld;(try dsimp only at hh);exact hh.trans hb)) (fun hHeld=>?_)
     clear hK K
     try simp only [Act.put,aput]
     refine wpAnyH_ready (rs:=[7]) (by kernel_rfl) (by simp) ?_
     refine AllReadyH.cons rfl (fun K hK=>?_) AllReadyH.nil
     (try simp only [aput])
     go_simp
     (have hSw:=hHeld;(try dsimp only at hSw);have sx:=hSw;have s_p0:=Ext.keep sx p0;have s_p1:=Ext.keep sx p1;have s_p2:=Ext.keep sx p2;have s_p3:=Ext.keep sx p3;have s_p4:=Ext.keep sx p4;have s_s0:=Ext.keep sx s0;have s_s1:=Ext.keep sx s1;have s_s2:=Ext.keep sx s2;have s_s3:=Ext.keep sx s3;have s_s4:=Ext.keep sx s4;have s_s5:=Ext.keep sx s5;have s_hSS:=SrtP.keeps _ _ _ _ _ _ (Same.ext sx) hSS;have s_hBB:=BigP.keeps _ _ _ _ _ _ (Same.ext sx) hBB;(go_at_call 189;refine (c_impl_Sorting_linkFaults lo hi _ _ [u0,u1,u2,.slice a3 s.most.length k3,.slice a5 s.apart.length k5] s _ (onL s b i) i _ s_hSS hVC (i64_nat (by omega)) (onL_len s b i) (by omega) hal (fun j hj=>by rw [onL_len];exact apart_ok HSB.out j hj)).mono ?_;rintro e y ⟨vs,rfl,hVS,hb⟩;have hrB:=hrA.ext FltP.keeps hb;rw [← HLF.out] at hVS))
     show K _ _
     refine hK.out _ _ (by (have hh:=hHeld;(try dsimp only at hh);exact hh.trans hb)) (fun hHeld=>?_)
     clear hK K
     try simp only [Act.put,aput]
     refine wpAnyH_ready (rs:=[8]) (by kernel_rfl) (by simp) ?_
     refine AllReadyH.cons rfl (fun K hK=>?_) AllReadyH.nil
     (refine step_append_all FltP.flat FltP.ones rfl (.tmp 56) (.tmp 63) 138 rfl (W1.heap.size) 154 i0 _ 24 Tryz.underlying138 hi0 hz0 hz1 hz2 rfl (by decide) _ _ (by rfl) hrB _ (linkFlts s b i) _ _ (by rfl) hVS hL2 (by decide) (Below.size hHeld) ?_;intro v3 w3 row3 ext3)
     show K _ _
     refine hK.out _ _ (by exact (ext3 W1 hHeld (Nat.le_refl _))) (fun hHeld=>?_)
     clear hK K
     try simp only [Act.put,aput]
     refine tkP 9 ?_ ?_ ?_;rotate_left;focus (intro w;go_simp;try with_reducible rfl)
     try simp only [Act.put,aput]
     refine wpAnyH_done (by kernel_rfl) ?_ _
     all_goals go_wp2
     all_goals go_roundw
     case rel=>exact ⟨i+1,rfl,by omega,by rw [HT.out,← List.append_assoc];exact row3,by assumption⟩
     all_goals (simp only [intOf];omega)
    ·have e:i=linksN b:=by omega
     subst e
     go_wp2
     go_ret
     exact ⟨_,rfl,hrow.toSlV FltP.widens (by omega),hX⟩
end Go.Proofs.YtccjepndhlobpaaGreatDoor

/-
  Walks: whether a bigraph is sorted.
-/
namespace Go.Proofs.YtccjepndhlobpaaGreatDoor
open Go.RowKit
set_option linter.unusedVariables false
set_option linter.unusedSimpArgs false
attribute [local irreducible] inR faultsL
set_option maxRecDepth 100000 in
set_option maxHeartbeats 1600000 in
theorem c_impl_Sorting_isSorted (lo hi lo' hi':Nat) (cs ds:List Value) (sig:List Ctl) (s:Srt) (b:Big) (w:World) (hs:SrtP lo hi w cs s) (h:BigP lo' hi' w ds b) (hsB:sortB sig s=true) (hbB:bigB sig b=true) (hal:s.apart.length≤1048576) :
 Calls Tryz.prog 59 #[.agg cs.toArray,.agg ds.toArray,.bool false] w fun e w'=>e=.returned (.bool (faultsL s b).isEmpty)∧Ext w w':=by
 have hSS:=hs
 have hBB:=h
 obtain ⟨u0,u1,u2,u3,u4,rfl,_⟩:=hs
 obtain ⟨v1,v2,v4,v5,rfl,_⟩:=h
 obtain ⟨W0,hW0,hbx,hx0,hz⟩:=box_facts w [u0,u1,u2,u3,u4] 39
 obtain ⟨W1,hW1,hbx1,hx1,hz1⟩:=box_facts W0 [.int .i64 b.roots,v1,v2,.int .i64 b.edges,v4,v5] 44
 obtain ⟨W2,hW2,hbx2,hx2,hz2⟩:=box_facts W1 [.bool false] 4
 have p0:=hx2.keep (hx1.keep (hbx 0 _ rfl).1)
 have p1:=hx2.keep (hx1.keep (hbx 1 _ rfl).1)
 have p2:=hx2.keep (hx1.keep (hbx 2 _ rfl).1)
 have p3:=hx2.keep (hx1.keep (hbx 3 _ rfl).1)
 have p4:=hx2.keep (hx1.keep (hbx 4 _ rfl).1)
 have s0:=hx2.keep (hbx1 0 _ rfl).1
 have s1:=hx2.keep (hbx1 1 _ rfl).1
 have s2:=hx2.keep (hbx1 2 _ rfl).1
 have s3:=hx2.keep (hbx1 3 _ rfl).1
 have s4:=hx2.keep (hbx1 4 _ rfl).1
 have s5:=hx2.keep (hbx1 5 _ rfl).1
 have t0:=(hbx2 0 _ rfl).1
 have hza:w.heap.size<W0.heap.size:=by omega
 have hzb:W0.heap.size<W1.heap.size:=by omega
 clear hz hz1 hz2 hbx hbx1 hbx2
 have hx:=(hx0.trans hx1).trans hx2
 replace hSS:=SrtP.keeps _ _ _ _ _ _ (Same.ext hx) hSS
 replace hBB:=BigP.keeps _ _ _ _ _ _ (Same.ext hx) hBB
 have HSB:=Lib.hid hsB
 have HBB:=Lib.hid hbB
 clear hsB hbB
 have eg:∀args w,(callFunc 124 args).run Tryz.prog w=.ok (.enter 124 args) w:=enters_of Tryz.func124 (by kernel_rfl) rfl
 have HE:=Lib.hid (show (faultsL s b).any (fun _=>true) = !((faultsL s b).isEmpty) by cases faultsL s b <;> simp)
 go_enter Tryz.func59,Tryz.ntmps59
 go_wp2_with fail
 refine (c_impl_Sorting_faults lo hi lo' hi' _ _ sig s b _ hSS hBB HSB.out HBB.out hal).mono ?_
 rintro e y ⟨vf,rfl,hVF,hb⟩
 have t1:=hb.keep t0
 go_wp2_with fail
 refine (c_slices_ContainsFunc_impl_Fault_impl_Fault _ _ (fun _=>true) 124 #[.pointer (some ⟨W1.heap.size,0,none⟩)] _ _ _ hVF eg (fun j hj cs W hW hP=>c_impl_Sorting_isSorted_1 _ _ W1.heap.size cs _ W hP (hW.keep t1))).mono ?_
 rintro e y2 ⟨rfl,hb2⟩
 rw [HE.out]
 go_wp2
 go_ret
 exact ⟨ret_bool (by simp),(hx.trans hb).trans hb2⟩
end Go.Proofs.YtccjepndhlobpaaGreatDoor
