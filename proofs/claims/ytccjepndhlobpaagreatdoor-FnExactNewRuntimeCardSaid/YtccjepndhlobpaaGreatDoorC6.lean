/-
  Plain facts and facts on memory that the walks lean on.
-/
import Derived.Test.YtccjepndhlobpaaGreatDoorC3
import Derived.Test.YtccjepndhlobpaaGreatDoorC4
import Derived.Test.YtccjepndhlobpaaGreatDoorC5
/-
  Walks: agents.
-/
namespace Go.Proofs.YtccjepndhlobpaaGreatDoor
open Go.RowKit
set_option linter.unusedVariables false
set_option linter.unusedSimpArgs false
attribute [local irreducible] inR nameB strLt sigB namesB underB linkB siteOk wireOk sgAt nodeOk bigB
def closedB (b:Big):Bool:=decide (b.sites.length=0) && decide (b.inner.length=0)
theorem c_impl_Bigraph_isClosed (lo' hi':Nat) (cs:List Value) (b:Big) (w:World) (hB:BigP lo' hi' w cs b) :
 Calls Tryz.prog 121 #[.agg cs.toArray] w fun e w'=>e=.returned (.bool (closedB b))∧Ext w w':=by
 obtain ⟨v1,v2,v4,v5,rfl,r1,r2,hN,hS,hO,hI⟩:=hB
 obtain ⟨a2,k2,rfl,n1,n2,n3,n4⟩:=hS
 obtain ⟨a5,k5,rfl,l1,l2,l3,l4⟩:=hI
 unfold maxLen at n2 l2
 obtain ⟨W0,hW0,hbx,hx0,hz⟩:=box_facts w [.int .i64 b.roots,v1,.slice a2 b.sites.length k2,.int .i64 b.edges,v4,.slice a5 b.inner.length k5] 44
 have p2:=(hbx 2 _ rfl).1
 have p5:=(hbx 5 _ rfl).1
 clear hz hbx n4 l4
 go_enter Tryz.func121,Tryz.ntmps121
 have Hi:=Lib.hid trivial
 by_cases hs:((b.sites.length:Int))=(0)
 have es:(((b.sites.length:Int)) == (0))=true:=beq_iff_eq.2 hs
 have Hs:=Lib.hid hs;clear hs
 by_cases hi:((b.inner.length:Int))=(0)
 have ei:(((b.inner.length:Int)) == (0))=true:=beq_iff_eq.2 hi
 have Hi:=Lib.hid hi;clear hi
 have isF:=trivial
 rotate_left
 have ei:(((b.inner.length:Int)) == (0))=false:=beq_eq_false_iff_ne.2 hi
 have Hi:=Lib.hid hi;clear hi
 have isP:=trivial
 rotate_left
 have es:(((b.sites.length:Int)) == (0))=false:=beq_eq_false_iff_ne.2 hs
 have Hs:=Lib.hid hs;clear hs
 have isP:=trivial
 all_goals go_wp2_with fail
 all_goals first|(have:=isF;go_ret;exact ⟨ret_bool (by have h1:b.sites.length=0:=(by have:=Hs.out;omega);have h2:b.inner.length=0:=(by have:=Hi.out;omega);unfold closedB;rw [decide_eq_true h1,decide_eq_true h2];rfl),xw⟩)|(have:=isP;go_ret;exact ⟨ret_bool (by unfold closedB;first|(have h1:¬b.sites.length=0:=(by have:=Hs.out;omega);rw [decide_eq_false h1];rfl)|(have h1:b.sites.length=0:=(by have:=Hs.out;omega);have h2:¬b.inner.length=0:=(by have:=Hi.out;omega);rw [decide_eq_true h1,decide_eq_false h2];rfl)),xw⟩)
set_option maxHeartbeats 1600000 in
theorem c_impl_IsAgent (lo hi lo' hi':Nat) (v:Value) (sig:List Ctl) (cs:List Value) (b:Big) (w:World) (hV:CtlsV lo hi w v sig) (hB:BigP lo' hi' w cs b) (hlen:b.inner.length≤1048576) :
 Calls Tryz.prog 58 #[v,.agg cs.toArray] w fun e w'=>e=.returned (.bool (agentB sig b))∧Ext w w':=by
 obtain ⟨v1,v2,v4,v5,rfl,r1,r2,hN,hS,hO,hI⟩:=id hB
 obtain ⟨W0,hW0,hbx,hx0,hz⟩:=box_facts w [.int .i64 b.roots,v1,v2,.int .i64 b.edges,v4,v5] 44
 have p0:=(hbx 0 _ rfl).1
 have p1:=(hbx 1 _ rfl).1
 have p2:=(hbx 2 _ rfl).1
 have p3:=(hbx 3 _ rfl).1
 have p4:=(hbx 4 _ rfl).1
 have p5:=(hbx 5 _ rfl).1
 clear hz hbx
 replace hV:=hV.ext CtlP.keeps hx0
 replace hB:=BigP.keeps _ _ _ _ _ _ (Same.ext hx0) hB
 have HAG:Hid (agentB sig b=(bigB sig b && closedB b)):=Lib.hid rfl
 go_enter Tryz.func58,Tryz.ntmps58
 have Hc:=Lib.hid trivial
 cases ha:bigB sig b
 have Ha:=Lib.hid ha;clear ha
 have isP:=trivial
 rotate_left
 have Ha:=Lib.hid ha;clear ha
 cases hc:closedB b
 have Hc:=Lib.hid hc;clear hc
 have isP:=trivial
 rotate_left
 have Hc:=Lib.hid hc;clear hc
 have isF:=trivial
 all_goals go_wp2_with (first|(go_at_call 121;(refine (c_impl_Bigraph_isClosed lo' hi' _ b _ hB).mono ?_);rintro e y ⟨rfl,hb⟩;rw [Hc.out];replace p0:=Ext.keep hb p0;replace p1:=Ext.keep hb p1;replace p2:=Ext.keep hb p2;replace p3:=Ext.keep hb p3;replace p4:=Ext.keep hb p4;replace p5:=Ext.keep hb p5;replace hB:=BigP.keeps _ _ _ _ _ _ (Same.ext hb) hB)|(go_at_call 120;(refine (c_impl_IsBigraph lo hi lo' hi' _ sig _ b _ hV hB hlen).mono ?_);rintro e y ⟨rfl,hb⟩;rw [Ha.out];replace p0:=Ext.keep hb p0;replace p1:=Ext.keep hb p1;replace p2:=Ext.keep hb p2;replace p3:=Ext.keep hb p3;replace p4:=Ext.keep hb p4;replace p5:=Ext.keep hb p5;replace hB:=BigP.keeps _ _ _ _ _ _ (Same.ext hb) hB))
 all_goals first|(have:=isF;go_ret;exact ⟨ret_bool (by rw [HAG.out,Ha.out,Hc.out];rfl),xw⟩)|(have:=isP;go_ret;exact ⟨ret_bool (by rw [HAG.out];first|(rw [Ha.out];rfl)|(rw [Ha.out,Hc.out];rfl)),xw⟩)
set_option maxRecDepth 100000 in
set_option maxHeartbeats 1600000 in
theorem c_impl_areTwo (lo hi lo' hi':Nat) (v:Value) (sig:List Ctl) (cs cs':List Value) (b b':Big) (w:World) (hV:CtlsV lo hi w v sig) (hB:BigP lo' hi' w cs b) (hB':BigP lo' hi' w cs' b') (hlen:b.inner.length≤1048576) (hlen':b'.inner.length≤1048576) :
 Calls Tryz.prog 167 #[v,.agg cs.toArray,.agg cs'.toArray] w fun e w'=>e=.returned (.bool (bigB sig b && bigB sig b'))∧Ext w w':=by
 obtain ⟨v1,v2,v4,v5,rfl,r1,r2,hN,hS,hO,hI⟩:=id hB
 obtain ⟨y1,y2,y4,y5,rfl,r1',r2',hN',hS',hO',hI'⟩:=id hB'
 obtain ⟨W0,hW0,hbx,hx0,hz⟩:=box_facts w [.int .i64 b.roots,v1,v2,.int .i64 b.edges,v4,v5] 44
 obtain ⟨W1,hW1,hbx1,hx1,hz1⟩:=box_facts W0 [.int .i64 b'.roots,y1,y2,.int .i64 b'.edges,y4,y5] 44
 have p0:=hx1.keep (hbx 0 _ rfl).1
 have p1:=hx1.keep (hbx 1 _ rfl).1
 have p2:=hx1.keep (hbx 2 _ rfl).1
 have p3:=hx1.keep (hbx 3 _ rfl).1
 have p4:=hx1.keep (hbx 4 _ rfl).1
 have p5:=hx1.keep (hbx 5 _ rfl).1
 have s0:=(hbx1 0 _ rfl).1
 have s1:=(hbx1 1 _ rfl).1
 have s2:=(hbx1 2 _ rfl).1
 have s3:=(hbx1 3 _ rfl).1
 have s4:=(hbx1 4 _ rfl).1
 have s5:=(hbx1 5 _ rfl).1
 have hzz:w.heap.size<W0.heap.size:=by omega
 clear hz hbx hz1 hbx1
 have hx:=hx0.trans hx1
 replace hV:=hV.ext CtlP.keeps hx
 replace hB:=BigP.keeps _ _ _ _ _ _ (Same.ext hx) hB
 replace hB':=BigP.keeps _ _ _ _ _ _ (Same.ext hx) hB'
 go_enter Tryz.func167,Tryz.ntmps167
 have Hc:=Lib.hid trivial
 cases ha:bigB sig b
 have Ha:=Lib.hid ha;clear ha
 have isP:=trivial
 rotate_left
 have Ha:=Lib.hid ha;clear ha
 cases hc:bigB sig b'
 have Hc:=Lib.hid hc;clear hc
 have isP:=trivial
 rotate_left
 have Hc:=Lib.hid hc;clear hc
 have isF:=trivial
 all_goals go_wp2_with (first|(go_at_call 120;(with_reducible refine (c_impl_IsBigraph lo hi lo' hi' _ sig [.int .i64 b'.roots,y1,y2,.int .i64 b'.edges,y4,y5] b' _ hV hB' hlen').mono ?_);rintro e y ⟨rfl,hb⟩;rw [Hc.out];replace p0:=Ext.keep hb p0;replace p1:=Ext.keep hb p1;replace p2:=Ext.keep hb p2;replace p3:=Ext.keep hb p3;replace p4:=Ext.keep hb p4;replace p5:=Ext.keep hb p5;replace s0:=Ext.keep hb s0;replace s1:=Ext.keep hb s1;replace s2:=Ext.keep hb s2;replace s3:=Ext.keep hb s3;replace s4:=Ext.keep hb s4;replace s5:=Ext.keep hb s5;replace hV:=hV.ext CtlP.keeps hb;replace hB':=BigP.keeps _ _ _ _ _ _ (Same.ext hb) hB')|(go_at_call 120;(with_reducible refine (c_impl_IsBigraph lo hi lo' hi' _ sig [.int .i64 b.roots,v1,v2,.int .i64 b.edges,v4,v5] b _ hV hB hlen).mono ?_);rintro e y ⟨rfl,hb⟩;rw [Ha.out];replace p0:=Ext.keep hb p0;replace p1:=Ext.keep hb p1;replace p2:=Ext.keep hb p2;replace p3:=Ext.keep hb p3;replace p4:=Ext.keep hb p4;replace p5:=Ext.keep hb p5;replace s0:=Ext.keep hb s0;replace s1:=Ext.keep hb s1;replace s2:=Ext.keep hb s2;replace s3:=Ext.keep hb s3;replace s4:=Ext.keep hb s4;replace s5:=Ext.keep hb s5;replace hV:=hV.ext CtlP.keeps hb;replace hB':=BigP.keeps _ _ _ _ _ _ (Same.ext hb) hB'))
 all_goals (go_ret;exact ⟨ret_bool (by rfl),xw⟩)
end Go.Proofs.YtccjepndhlobpaaGreatDoor

/-
  Walks: redexes by the reference; names compared.
-/
namespace Go.Proofs.YtccjepndhlobpaaGreatDoor
open Go.RowKit
set_option linter.unusedVariables false
set_option linter.unusedSimpArgs false
/-- Two lists of names are one. -/
def sameAt (a c:List ByteArray) (i:Nat):Bool:=strEq (a.getD i ⟨#[]⟩) (c.getD i ⟨#[]⟩)
def eqS (a c:List ByteArray):Bool:=decide (a.length=c.length) && (List.range a.length).all (sameAt a c)
theorem sameAt_at (a c:List ByteArray) (i:Nat) (h1:i<a.length) (h2:i<c.length):sameAt a c i=(a[i].toList == c[i].toList):=by
 unfold sameAt strEq
 rw [List.getD_eq_getElem?_getD,List.getD_eq_getElem?_getD,List.getElem?_eq_getElem h1,List.getElem?_eq_getElem h2];rfl
theorem eqS_bad {a c:List ByteArray} (i:Nat) (h1:i<a.length) (h:sameAt a c i=false):eqS a c=false:=by
 unfold eqS;rw [range_all_bad _ _ i h1 h];simp
theorem eqS_len {a c:List ByteArray} (h:¬(a.length:Int)=(c.length:Int)):eqS a c=false:=by
 unfold eqS;rw [decide_eq_false (by omega)];rfl
theorem eqS_yes {a c:List ByteArray} (h:(a.length:Int)=(c.length:Int)) (hh:(List.range a.length).all (sameAt a c)=true):eqS a c=true:=by
 unfold eqS;rw [decide_eq_true (by omega),hh];rfl
attribute [local irreducible] inR nameB strLt kidsL holesL portsL endsL idleB rootOk nodeSolid linkSolid placeOk bigB sameAt
set_option maxRecDepth 100000 in
set_option maxHeartbeats 3200000 in
theorem c_spec_l8Solid (lo hi:Nat) (cs:List Value) (b:Big) (w:World) (h:BigP lo hi w cs b) (D:Dims b) :
 Calls Tryz.prog 230 #[.agg cs.toArray] w fun e w'=>e=.returned (.bool (solidB b))∧Ext w w':=by
 have hB:=h
 obtain ⟨v1,v2,v4,v5,rfl,r1,r2,hN,hS,hO,hI⟩:=h
 obtain ⟨a1,k1,rfl,g1,g2,g3,_⟩:=hN
 obtain ⟨a4,k4,rfl,o1,o2,o3,_⟩:=hO
 obtain ⟨a5,k5,rfl,l1,l2,l3,_⟩:=hI
 unfold maxLen at g2 o2 l2
 have hrr:=inR_le D.roots
 have hee:=inR_le D.edges
 have hdn:=D.nodes
 have hds:=D.sites
 have hdo:=D.outer
 have hdi:=D.inner
 obtain ⟨W0,hW0,hbx,hx0,hz⟩:=box_facts w [.int .i64 b.roots,.slice a1 b.nodes.length k1,v2,.int .i64 b.edges,.slice a4 b.outer.length k4,.slice a5 b.inner.length k5] 44
 have p0:=(hbx 0 _ rfl).1
 have p1:=(hbx 1 _ rfl).1
 have p2:=(hbx 2 _ rfl).1
 have p3:=(hbx 3 _ rfl).1
 have p4:=(hbx 4 _ rfl).1
 have p5:=(hbx 5 _ rfl).1
 clear hz hbx
 replace hB:=BigP.keeps _ _ _ _ _ _ (Same.ext hx0) hB
 have HD:=Lib.hid D
 go_enter Tryz.func230,Tryz.ntmps230
 have Hr:=Lib.hid trivial
 by_cases hni:0<b.inner.length
 have eni:decide (0<b.inner.length)=true:=decide_eq_true hni
 have isF:=trivial
 rotate_left
 have eni:decide (0<b.inner.length)=false:=decide_eq_false hni
 by_cases hr:(b.roots)=(0)
 have er:((b.roots) == (0))=true:=beq_iff_eq.2 hr
 have Hr:=Lib.hid hr;clear hr
 have isF:=trivial
 rotate_left
 have er:((b.roots) == (0))=false:=beq_eq_false_iff_ne.2 hr
 have Hr:=Lib.hid hr;clear hr
 all_goals go_wp2_with fail
 all_goals first|(have:=isF;go_ret;exact ⟨ret_bool (solidB_head (by first|(left;omega)|(right;exact Hr.out))).symm,xw⟩)|skip
 have HIN:=Lib.hid (show b.inner.length=0 by omega)
 obtain ⟨R,hR⟩:=Int.eq_ofNat_of_zero_le hrr.1
 have hR1:(R:Int)≤b.roots:=by omega
 have hR2:b.roots≤(R:Int):=by omega
 have HRT:=Lib.hid (show b.roots.toNat=R by omega)
 clear hR
 go_loopw [3] (fun c wr=>∃n:Nat,c=.int .i64 n∧n≤R∧(List.range n).all (rootOk b)=true∧Ext W0 wr) (fun c _=>R - (intOf c).toNat)
 case atStart=>exact ⟨0,rfl,Nat.zero_le _,rfl,Ext.refl _⟩
 case round=>
  obtain ⟨n,rfl,hn0,hok,hx⟩:=hrel
  have HOK:=Lib.hid hok
  clear hok
  have hX:Ext w wr:=hx0.trans hx
  have q0:=hx.keep p0
  have q1:=hx.keep p1
  have q2:=hx.keep p2
  have q3:=hx.keep p3
  have q4:=hx.keep p4
  have q5:=hx.keep p5
  have hB':=BigP.keeps _ _ _ _ _ _ (Same.ext hx) hB
  by_cases hlt:n<R
  ·have HS:=Lib.hid (range_all_succ (rootOk b) n)
   have HBD:=Lib.hid (solidB_root n (by rw [HRT.out];exact hlt))
   have HRO:=Lib.hid (rootOk_eq b n)
   have hk1:=kidsL_len b (-1 - n)
   have hh1:=holesL_len b (-1 - n)
   go_wp2_with fail
   refine (c_spec_l2Kids lo hi [.int .i64 b.roots,.slice a1 b.nodes.length k1,v2,.int .i64 b.edges,.slice a4 b.outer.length k4,.slice a5 b.inner.length k5] b (-1 - n) _ hB' (by omega)).mono ?_
   rintro e y ⟨u,rfl,hU,hb⟩
   obtain ⟨ua,uk,rfl,z1,z2,z3,z4⟩:=hU
   clear z4
   replace q0:=hb.keep q0
   replace q1:=hb.keep q1
   replace q2:=hb.keep q2
   replace q3:=hb.keep q3
   replace q4:=hb.keep q4
   replace q5:=hb.keep q5
   replace hB':=BigP.keeps _ _ _ _ _ _ (Same.ext hb) hB'
   by_cases hk:(kidsL b (-1 - n)).length=0
   ·have ek:(((kidsL b (-1 - n)).length:Int) == 0)=true:=beq_iff_eq.2 (by omega)
    have HB:=Lib.hid (HBD.out (by rw [HRO.out,decide_eq_true hk];rfl))
    clear hk
    go_wp2
    go_ret
    exact ⟨ret_bool HB.out.symm,xw⟩
   ·have ek:(((kidsL b (-1 - n)).length:Int) == 0)=false:=beq_eq_false_iff_ne.2 (by omega)
    have HK:=Lib.hid hk
    clear hk
    go_wp2_with fail
    refine (c_spec_l2Holes lo hi [.int .i64 b.roots,.slice a1 b.nodes.length k1,v2,.int .i64 b.edges,.slice a4 b.outer.length k4,.slice a5 b.inner.length k5] b (-1 - n) _ hB' (by omega)).mono ?_
    rintro e y2 ⟨u2,rfl,hU2,hb2⟩
    obtain ⟨ua2,uk2,rfl,z1',z2',z3',z4'⟩:=hU2
    clear z4'
    by_cases hh:0<(holesL b (-1 - n)).length
    ·have HB:=Lib.hid (HBD.out (by rw [HRO.out,decide_eq_false HK.out,decide_eq_false (by omega)];rfl))
     go_wp2
     go_ret
     exact ⟨ret_bool HB.out.symm,xw⟩
    ·have HG:=Lib.hid (show rootOk b n=true by rw [HRO.out,decide_eq_false HK.out,decide_eq_true (by omega)];rfl)
     go_wp2
     go_roundw
     case rel=>exact ⟨n+1,rfl,by omega,by rw [HS.out,HOK.out,HG.out];rfl,xw⟩
     ·simp only [intOf];omega
  ·have hne:n=R:=by omega
   subst hne
   go_wp2
   go_loopw [4] (fun c wi=>∃i:Nat,c=.int .i64 i∧i≤b.nodes.length∧(List.range i).all (nodeSolid b)=true∧Ext W0 wi) (fun c _=>b.nodes.length - (intOf c).toNat)
   case atStart=>exact ⟨0,rfl,Nat.zero_le _,rfl,xw⟩
   case round=>
    obtain ⟨i,rfl,hi0,hok,hxi⟩:=hrel
    have HOK2:=Lib.hid hok
    clear hok
    have hXi:Ext w wr:=hx0.trans hxi
    have s0:=hxi.keep p0
    have s1:=hxi.keep p1
    have s2:=hxi.keep p2
    have s3:=hxi.keep p3
    have s4:=hxi.keep p4
    have s5:=hxi.keep p5
    have hB2:=BigP.keeps _ _ _ _ _ _ (Same.ext hxi) hB
    by_cases hil:i<b.nodes.length
    ·have HS2:=Lib.hid (range_all_succ (nodeSolid b) i)
     have HBL:=Lib.hid (solidB_node i hil)
     have HLS:=Lib.hid (nodeSolid_eq b i)
     have hh1:=holesL_len b i
     go_wp2_with fail
     refine (c_spec_l2Holes lo hi [.int .i64 b.roots,.slice a1 b.nodes.length k1,v2,.int .i64 b.edges,.slice a4 b.outer.length k4,.slice a5 b.inner.length k5] b i _ hB2 (by omega)).mono ?_
     rintro e y2 ⟨u2,rfl,hU2,hb2⟩
     obtain ⟨ua2,uk2,rfl,z1',z2',z3',z4'⟩:=hU2
     clear z4'
     by_cases hh:1<(holesL b i).length
     ·have HB:=Lib.hid (HBL.out (by rw [HLS.out,decide_eq_false (by omega)]))
      go_wp2
      go_ret
      exact ⟨ret_bool HB.out.symm,xw⟩
     ·have HG:=Lib.hid (show nodeSolid b i=true by rw [HLS.out,decide_eq_true (by omega)])
      go_wp2
      go_roundw
      case rel=>exact ⟨i+1,rfl,by omega,by rw [HS2.out,HOK2.out,HG.out];rfl,xw⟩
      ·simp only [intOf];omega
    ·have hie:i=b.nodes.length:=by omega
     subst hie
     have hln:((linksN b:Nat):Int)=b.edges+b.outer.length:=by unfold linksN;omega
     go_wp2
     go_loopw [5] (fun c wi=>∃i:Nat,c=.int .i64 i∧i≤linksN b∧(List.range i).all (linkSolid b)=true∧Ext W0 wi) (fun c _=>linksN b - (intOf c).toNat)
     case atStart=>exact ⟨0,rfl,Nat.zero_le _,rfl,xw⟩
     case round=>
      obtain ⟨i,rfl,hi0,hok,hxj⟩:=hrel
      have HOK3:=Lib.hid hok
      clear hok
      have hXj:Ext w wr:=hx0.trans hxj
      have t0:=hxj.keep p0
      have t1:=hxj.keep p1
      have t2:=hxj.keep p2
      have t3:=hxj.keep p3
      have t4:=hxj.keep p4
      have t5:=hxj.keep p5
      have hB3:=BigP.keeps _ _ _ _ _ _ (Same.ext hxj) hB
      by_cases hil:i<linksN b
      ·have HS2:=Lib.hid (range_all_succ (linkSolid b) i)
       have HBL:=Lib.hid (solidB_link i hil)
       have HLS:=Lib.hid (linkSolid_eq b i)
       cases hid:idleB b i
       ·have HI:=Lib.hid hid
        clear hid
        go_wp2_with (go_at_call 243;refine (c_spec_l2Idle lo hi [.int .i64 b.roots,.slice a1 b.nodes.length k1,v2,.int .i64 b.edges,.slice a4 b.outer.length k4,.slice a5 b.inner.length k5] b i _ hB3 hdn HD.out.links hdi).mono ?_;rintro e y ⟨rfl,hb⟩;rw [HI.out])
        go_roundw
        case rel=>exact ⟨i+1,rfl,by omega,by rw [HS2.out,HOK3.out,HLS.out,HI.out];rfl,xw⟩
        ·simp only [intOf];omega
       ·have HI:=Lib.hid hid
        clear hid
        go_wp2_with (go_at_call 243;refine (c_spec_l2Idle lo hi [.int .i64 b.roots,.slice a1 b.nodes.length k1,v2,.int .i64 b.edges,.slice a4 b.outer.length k4,.slice a5 b.inner.length k5] b i _ hB3 hdn HD.out.links hdi).mono ?_;rintro e y ⟨rfl,hb⟩;rw [HI.out])
        go_ret
        exact ⟨ret_bool (HBL.out (by rw [HLS.out,HI.out];rfl)).symm,xw⟩
      ·have hie:i=linksN b:=by omega
       subst hie
       go_wp2
       go_ret
       exact ⟨ret_bool (solidB_yes HIN.out Hr.out (by rw [HRT.out];exact HOK.out) HOK2.out HOK3.out).symm,xw⟩
set_option maxHeartbeats 1600000 in
theorem c_spec_l8Redex (lo hi lo' hi':Nat) (v:Value) (sig:List Ctl) (cs:List Value) (b:Big) (w:World) (hV:CtlsV lo hi w v sig) (hB:BigP lo' hi' w cs b) (hlen:b.inner.length≤1048576) :
 Calls Tryz.prog 201 #[v,.agg cs.toArray] w fun e w'=>e=.returned (.bool (bigB sig b && solidB b))∧Ext w w':=by
 obtain ⟨v1,v2,v4,v5,rfl,r1,r2,hN,hS,hO,hI⟩:=id hB
 obtain ⟨W0,hW0,hbx,hx0,hz⟩:=box_facts w [.int .i64 b.roots,v1,v2,.int .i64 b.edges,v4,v5] 44
 have p0:=(hbx 0 _ rfl).1
 have p1:=(hbx 1 _ rfl).1
 have p2:=(hbx 2 _ rfl).1
 have p3:=(hbx 3 _ rfl).1
 have p4:=(hbx 4 _ rfl).1
 have p5:=(hbx 5 _ rfl).1
 clear hz hbx
 replace hV:=hV.ext CtlP.keeps hx0
 replace hB:=BigP.keeps _ _ _ _ _ _ (Same.ext hx0) hB
 go_enter Tryz.func201,Tryz.ntmps201
 have Hc:=Lib.hid trivial
 cases ha:bigB sig b
 have Ha:=Lib.hid ha;clear ha
 have isP:=trivial
 rotate_left
 have Ha:=Lib.hid ha;clear ha
 cases hc:solidB b
 have Hc:=Lib.hid hc;clear hc
 have isP:=trivial
 rotate_left
 have Hc:=Lib.hid hc;clear hc
 have isF:=trivial
 all_goals go_wp2_with (first|(go_at_call 230;(refine (c_spec_l8Solid lo' hi' _ b _ hB (dims_of Ha.out)).mono ?_);rintro e y ⟨rfl,hb⟩;rw [Hc.out];replace p0:=Ext.keep hb p0;replace p1:=Ext.keep hb p1;replace p2:=Ext.keep hb p2;replace p3:=Ext.keep hb p3;replace p4:=Ext.keep hb p4;replace p5:=Ext.keep hb p5;replace hB:=BigP.keeps _ _ _ _ _ _ (Same.ext hb) hB)|(go_at_call 156;(refine (c_spec_l2Good lo hi lo' hi' _ sig _ b _ hV hB hlen).mono ?_);rintro e y ⟨rfl,hb⟩;rw [Ha.out];replace p0:=Ext.keep hb p0;replace p1:=Ext.keep hb p1;replace p2:=Ext.keep hb p2;replace p3:=Ext.keep hb p3;replace p4:=Ext.keep hb p4;replace p5:=Ext.keep hb p5;replace hB:=BigP.keeps _ _ _ _ _ _ (Same.ext hb) hB))
 all_goals (go_ret;exact ⟨ret_bool (by rfl),xw⟩)
set_option maxHeartbeats 1600000 in
theorem c_slices_Equal_string_string (lo hi lo' hi':Nat) (v v':Value) (a c:List ByteArray) (w:World) (h:StrsV lo hi w v a) (h':StrsV lo' hi' w v' c) :
 Calls Tryz.prog 169 #[v,v'] w fun e w'=>e=.returned (.bool (eqS a c))∧Ext w w':=by
 obtain ⟨ua,k,rfl,g1,g2,g3,g4⟩:=h
 obtain ⟨ua',k',rfl,m1,m2,m3,m4⟩:=h'
 unfold maxLen at g2 m2
 by_cases hl:(a.length:Int)=(c.length:Int)
 ·have el:((a.length:Int) != (c.length:Int))=false:=bne_eq_false_iff_eq.2 hl
  have HL:=Lib.hid hl
  clear hl
  go_enter Tryz.func169,Tryz.ntmps169
  go_wp2
  go_loopw [13] (fun c' wr=>∃i:Nat,c'=.int .i64 i∧i≤a.length∧(List.range i).all (sameAt a c)=true∧Ext w wr) (fun c' _=>a.length - (intOf c').toNat)
  case atStart=>exact ⟨0,rfl,Nat.zero_le _,rfl,xw⟩
  case round=>
   obtain ⟨i,rfl,hi0,hok,hx⟩:=hrel
   have HOK:=Lib.hid hok
   clear hok
   by_cases hlt:i<a.length
   ·have hlt2:i<c.length:=by have:=HL.out;omega
    have HS:=Lib.hid (range_all_succ (sameAt a c) i)
    have HBD:=Lib.hid (eqS_bad (c:=c) i hlt)
    have HA:=Lib.hid (sameAt_at a c i hlt hlt2)
    rcases g4 with g4|⟨b1,o1,rfl,gb1,gb2,g4⟩
    ·subst g4;simp at hlt
    rcases m4 with m4|⟨b2,o2,rfl,mb1,mb2,m4⟩
    ·subst m4;simp at hlt2
    obtain ⟨cs,hl,⟨rfl,e1⟩,hc⟩:=g4 i hlt
    have q0:=hx.keep (hc 0 _ rfl)
    rw [Nat.mul_one,Nat.add_zero] at q0
    obtain ⟨ds,hdl,⟨rfl,d1⟩,hd⟩:=m4 i hlt2
    have r0:=hx.keep (hd 0 _ rfl)
    rw [Nat.mul_one,Nat.add_zero] at r0
    clear hc hd g4 m4
    have j0:(0:Int)≤(i:Int):=by omega
    have j1:(i:Int)<(a.length:Int):=by omega
    have j2:(i:Int)<(c.length:Int):=by omega
    cases hb:(a[i].toList == c[i].toList)
    have Hb:=Lib.hid hb
    have HB:=Lib.hid (HBD.out (by rw [HA.out];exact Hb.out))
    have isF:=trivial
    rotate_left
    have Hb:=Lib.hid hb
    have isP:=trivial
    all_goals go_wp2_with fail
    all_goals
     refine wp_region_held_drew (S:=(fun w'=>Ext wr w')) (by kernel_rfl) ?_ (fun hHeld=>?_)
     ·refine xw
     refine tkP 0 ?_ ?_ ?_;rotate_left;focus (intro w;go_simp;try with_reducible rfl)
     try simp only [Act.put,aput]
     refine tkP 1 ?_ ?_ ?_;rotate_left;focus (intro w;go_simp;try with_reducible rfl)
     try simp only [Act.put,aput]
     refine tkP 2 ?_ ?_ ?_;rotate_left;focus (intro w;go_simp;try with_reducible rfl)
     try simp only [Act.put,aput]
     refine tkY 3 ?_ ?_ ?_;rotate_left;focus (intro w hSw;(try dsimp only at hSw);have sx:=hSw;have s_q0:=Ext.keep sx q0;have s_r0:=Ext.keep sx r0;go_simp;try with_reducible rfl)
     try simp only [Act.put,aput]
     refine tkP 4 ?_ ?_ ?_;rotate_left;focus (intro w;go_simp;try with_reducible rfl)
     try simp only [Act.put,aput]
     refine tkP 5 ?_ ?_ ?_;rotate_left;focus (intro w;go_simp;try with_reducible rfl)
     try simp only [Act.put,aput]
     refine tkP 6 ?_ ?_ ?_;rotate_left;focus (intro w;go_simp;try with_reducible rfl)
     try simp only [Act.put,aput]
     refine tkY 7 ?_ ?_ ?_;rotate_left;focus (intro w hSw;(try dsimp only at hSw);have sx:=hSw;have s_q0:=Ext.keep sx q0;have s_r0:=Ext.keep sx r0;go_simp;try with_reducible rfl)
     try simp only [Act.put,aput]
     refine tkP 8 ?_ ?_ ?_;rotate_left;focus (intro w;go_simp;try with_reducible rfl)
     try simp only [Act.put,aput]
     refine wpAnyH_done (by kernel_rfl) ?_ _
    all_goals go_wp2
    all_goals first|(have:=isF;all_goals go_ret;all_goals exact ⟨ret_bool HB.out.symm,xw⟩)|(have:=isP;all_goals go_roundw;(case rel=>exact ⟨i+1,rfl,by omega,by rw [HS.out,HOK.out,HA.out,Hb.out];rfl,xw⟩);all_goals (simp only [intOf];omega))
   ·have e:i=a.length:=by omega
    subst e
    go_wp2
    go_ret
    exact ⟨ret_bool (eqS_yes HL.out HOK.out).symm,xw⟩
 ·have el:((a.length:Int) != (c.length:Int))=true:=bne_iff_ne.2 hl
  have HB:=Lib.hid (eqS_len hl)
  clear hl
  go_enter Tryz.func169,Tryz.ntmps169
  go_wp2
  go_ret
  exact ⟨ret_bool HB.out.symm,xw⟩
set_option maxHeartbeats 1600000 in
theorem c_spec_l3SameNames (lo hi lo' hi':Nat) (v v':Value) (a c:List ByteArray) (w:World) (h:StrsV lo hi w v a) (h':StrsV lo' hi' w v' c) :
 Calls Tryz.prog 202 #[v,v'] w fun e w'=>e=.returned (.bool (eqS a c))∧Ext w w':=by
 obtain ⟨ua,k,rfl,g1,g2,g3,g4⟩:=h
 obtain ⟨ua',k',rfl,m1,m2,m3,m4⟩:=h'
 unfold maxLen at g2 m2
 go_enter Tryz.func202,Tryz.ntmps202
 go_wp2
 go_loopw [5] (fun c' wr=>∃i:Nat,c'=.int .i64 i∧i≤a.length∧i≤c.length∧(List.range i).all (sameAt a c)=true∧Ext w wr) (fun c' _=>a.length - (intOf c').toNat)
 case atStart=>exact ⟨0,rfl,Nat.zero_le _,Nat.zero_le _,rfl,xw⟩
 case round=>
  obtain ⟨i,rfl,hi0,hi1,hok,hx⟩:=hrel
  have HOK:=Lib.hid hok
  clear hok
  by_cases hlt:i<a.length
  ·by_cases hlt2:i<c.length
   ·have HS:=Lib.hid (range_all_succ (sameAt a c) i)
    have HBD:=Lib.hid (eqS_bad (c:=c) i hlt)
    have HA:=Lib.hid (sameAt_at a c i hlt hlt2)
    rcases g4 with g4|⟨b1,o1,rfl,gb1,gb2,g4⟩
    ·subst g4;simp at hlt
    rcases m4 with m4|⟨b2,o2,rfl,mb1,mb2,m4⟩
    ·subst m4;simp at hlt2
    obtain ⟨cs,hl,⟨rfl,e1⟩,hc⟩:=g4 i hlt
    have q0:=hx.keep (hc 0 _ rfl)
    rw [Nat.mul_one,Nat.add_zero] at q0
    obtain ⟨ds,hdl,⟨rfl,d1⟩,hd⟩:=m4 i hlt2
    have r0:=hx.keep (hd 0 _ rfl)
    rw [Nat.mul_one,Nat.add_zero] at r0
    clear hc hd g4 m4
    have j0:(0:Int)≤(i:Int):=by omega
    have j1:(i:Int)<(a.length:Int):=by omega
    have j2:(i:Int)<(c.length:Int):=by omega
    cases hb:(a[i].toList == c[i].toList)
    have Hb:=Lib.hid hb
    have HB:=Lib.hid (HBD.out (by rw [HA.out];exact Hb.out))
    have isF:=trivial
    rotate_left
    have Hb:=Lib.hid hb
    have isP:=trivial
    all_goals go_wp2_with fail
    all_goals
     refine wp_region_held_drew (S:=(fun w'=>Ext wr w')) (by kernel_rfl) ?_ (fun hHeld=>?_)
     ·refine xw
     refine tkP 0 ?_ ?_ ?_;rotate_left;focus (intro w;go_simp;try with_reducible rfl)
     try simp only [Act.put,aput]
     refine tkP 1 ?_ ?_ ?_;rotate_left;focus (intro w;go_simp;try with_reducible rfl)
     try simp only [Act.put,aput]
     refine tkP 2 ?_ ?_ ?_;rotate_left;focus (intro w;go_simp;try with_reducible rfl)
     try simp only [Act.put,aput]
     refine tkY 3 ?_ ?_ ?_;rotate_left;focus (intro w hSw;(try dsimp only at hSw);have sx:=hSw;have s_q0:=Ext.keep sx q0;have s_r0:=Ext.keep sx r0;go_simp;try with_reducible rfl)
     try simp only [Act.put,aput]
     refine tkP 4 ?_ ?_ ?_;rotate_left;focus (intro w;go_simp;try with_reducible rfl)
     try simp only [Act.put,aput]
     refine tkP 5 ?_ ?_ ?_;rotate_left;focus (intro w;go_simp;try with_reducible rfl)
     try simp only [Act.put,aput]
     refine tkP 6 ?_ ?_ ?_;rotate_left;focus (intro w;go_simp;try with_reducible rfl)
     try simp only [Act.put,aput]
     refine tkY 7 ?_ ?_ ?_;rotate_left;focus (intro w hSw;(try dsimp only at hSw);have sx:=hSw;have s_q0:=Ext.keep sx q0;have s_r0:=Ext.keep sx r0;go_simp;try with_reducible rfl)
     try simp only [Act.put,aput]
     refine tkP 8 ?_ ?_ ?_;rotate_left;focus (intro w;go_simp;try with_reducible rfl)
     try simp only [Act.put,aput]
     refine wpAnyH_done (by kernel_rfl) ?_ _
    all_goals go_wp2
    all_goals first|(have:=isF;all_goals go_ret;all_goals exact ⟨ret_bool HB.out.symm,xw⟩)|(have:=isP;all_goals go_roundw;(case rel=>exact ⟨i+1,rfl,by omega,by omega,by rw [HS.out,HOK.out,HA.out,Hb.out];rfl,xw⟩);all_goals (simp only [intOf];omega))
   ·have hne:¬(a.length:Int)=(c.length:Int):=by omega
    have en:((a.length:Int) == (c.length:Int))=false:=beq_eq_false_iff_ne.2 hne
    have HB:=Lib.hid (eqS_len hne)
    clear hne
    go_wp2
    go_ret
    exact ⟨ret_bool HB.out.symm,xw⟩
  ·by_cases hl:(a.length:Int)=(c.length:Int)
   ·have en:((a.length:Int) == (c.length:Int))=true:=beq_iff_eq.2 hl
    have HB:=Lib.hid (eqS_yes hl (by rw [← HOK.out,show i=a.length by omega]))
    clear hl
    go_wp2
    go_ret
    exact ⟨ret_bool HB.out.symm,xw⟩
   ·have en:((a.length:Int) == (c.length:Int))=false:=beq_eq_false_iff_ne.2 hl
    have HB:=Lib.hid (eqS_len hl)
    clear hl
    go_wp2
    go_ret
    exact ⟨ret_bool HB.out.symm,xw⟩
end Go.Proofs.YtccjepndhlobpaaGreatDoor
