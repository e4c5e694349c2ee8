/-
  Plain facts and facts on memory that the walks lean on.
-/
import Derived.Test.YtccjepndhlobpaaGreatDoorC2
import Derived.Test.YtccjepndhlobpaaGreatDoorB0
/-
  Walks: children, sites, ports, inner names.
-/
namespace Go.Proofs.YtccjepndhlobpaaGreatDoor
open Go.RowKit
set_option linter.unusedVariables false
set_option linter.unusedSimpArgs false
theorem i64_nat {n:Nat} (h:n≤100000000):I64 (n:Int):=by unfold I64;omega
theorem fresh_ne {v v':Value} {g H:Nat} (h:v'.ownBlock=v.ownBlock∨v'.ownBlock=some H) (h1:v.ownBlock≠some g) (h2:g<H):v'.ownBlock≠some g:=by
 rcases h with h|h
 ·rw [h];exact h1
 ·rw [h];intro e;cases e;omega
attribute [local irreducible] inR nameB strLt
set_option maxRecDepth 100000 in
set_option maxHeartbeats 1600000 in
theorem c_spec_l2Kids (lo hi:Nat) (cs:List Value) (b:Big) (p:Int) (w:World) (h:BigP lo hi w cs b) (hlen:b.nodes.length≤1048576) :
 Calls Tryz.prog 241 #[.agg cs.toArray,.int .i64 p] w fun e w'=>∃v,e=.returned v∧SlV 1 IntP w.heap.size w'.heap.size w' v (kidsL b p)∧Ext w w':=by
 obtain ⟨v1,v2,v4,v5,rfl,r1,r2,hN,hS,hO,hI⟩:=h
 obtain ⟨aan,kn,rfl,n1,n2,n3,n4⟩:=hN
 unfold maxLen at n2
 obtain ⟨W0,hW0,hbx,hx0,hz⟩:=box_facts w [.int .i64 b.roots,.slice aan b.nodes.length kn,v2,.int .i64 b.edges,v4,v5] 44
 have pn:=(hbx 1 _ rfl).1
 have hzz:w.heap.size<W0.heap.size:=by omega
 clear hz hbx
 obtain ⟨i0,hi0,hz0,hz1,hz2⟩:=info_parts infoInt
 have hrow0:RowL 1 IntP 3 W0.heap.size (W0.alloc (.cells #[] 3)) (.slice (some ⟨W0.heap.size,0,none⟩) 0 0) []:=RowL.made (Nat.le_refl _)
 go_enter Tryz.func241,Tryz.ntmps241
 go_wp2
 go_loopw [5,6] (fun v c wr=>∃i:Nat,c=.int .i64 i∧i≤b.nodes.length∧RowL 1 IntP 3 W0.heap.size wr v (idxOf (kidF b p) i)∧Ext W0 wr) (fun _ c _=>b.nodes.length - (intOf c).toNat)
 case atStart=>exact ⟨0,rfl,Nat.zero_le _,hrow0,xw⟩
 case round=>
  obtain ⟨i,rfl,hi',hrow,hx⟩:=hrel
  replace pn:=hx.keep pn
  have hX:Ext w wr:=xw
  by_cases hlt:i<b.nodes.length
  ·have HF:=Lib.hid (kidF_at b p i hlt)
   rcases n4 with n4|⟨bn,on,rfl,nb1,nb2,n4⟩
   ·rw [n4] at hlt;simp at hlt
   obtain ⟨cs,hl,⟨nv,rfl,e1,e2,e3⟩,hc⟩:=n4 i hlt
   have q0:=hX.keep (hc 0 _ rfl)
   have q1:=hX.keep (hc 1 _ rfl)
   rw [Nat.add_zero] at q0
   clear hc n4
   have hsz:=Below.size hx
   have hL:=idxOf_len (kidF b p) i
   by_cases hp:(b.nodes[i]).parent=p
   ·have ep:((b.nodes[i]).parent == p)=true:=beq_iff_eq.2 hp
    have HT:=Lib.hid (idxOf_yes (f:=kidF b p) (n:=i) (by rw [HF.out];simpa using hp))
    clear hp
    go_wp2_with (at_builtin;refine wpList_append_row2 IntP.keeps rfl (.tmp 23) (.tmp 25) 23 rfl (W0.heap.size) 3 i0 _ 8 Tryz.underlying23 hi0 hz0 hz1 hz2 rfl (by decide) _ _ (by rfl) (hrow.ext IntP.keeps xw) ⟨wr.heap.size,0,none⟩ 1 [.int .i64 i] rfl rfl (one_cell (by simp)) (by simp [Value.oneCell']) (W0.heap.size) (W0.heap.size) (Nat.le_refl _) (by first|omega|(simp;omega)) (fun g hg=>.inr (hrow.block g hg).1) ((i:Int)) ⟨rfl,i64_nat (by omega)⟩ (by first|omega|(simp;omega)) (by decide) (by first|omega|(simp;omega)) ?_;intro v3 w3 row3 ext3 gro3 own3)
    have hx3:=ext3 W0 xw (Nat.le_refl _)
    go_roundw
    case rel=>exact ⟨i+1,rfl,by omega,by rw [HT.out];exact row3,xw⟩
    ·simp only [intOf];omega
   ·have ep:((b.nodes[i]).parent == p)=false:=beq_eq_false_iff_ne.2 hp
    have HT:=Lib.hid (idxOf_no (f:=kidF b p) (n:=i) (by rw [HF.out];simpa using hp))
    clear hp
    go_wp2
    go_roundw
    case rel=>exact ⟨i+1,rfl,by omega,by rw [HT.out];exact hrow,xw⟩
    ·simp only [intOf];omega
  ·have e:i=b.nodes.length:=by omega
   subst e
   go_wp2
   go_ret
   exact ⟨_,rfl,hrow.toSlV IntP.widens (by omega),hX⟩
set_option maxRecDepth 100000 in
set_option maxHeartbeats 1600000 in
theorem c_spec_l2Holes (lo hi:Nat) (cs:List Value) (b:Big) (p:Int) (w:World) (h:BigP lo hi w cs b) (hlen:b.sites.length≤1048576) :
 Calls Tryz.prog 242 #[.agg cs.toArray,.int .i64 p] w fun e w'=>∃v,e=.returned v∧SlV 1 IntP w.heap.size w'.heap.size w' v (holesL b p)∧Ext w w':=by
 obtain ⟨v1,v2,v4,v5,rfl,r1,r2,hN,hS,hO,hI⟩:=h
 obtain ⟨aas,ks,rfl,s1,s2,s3,s4⟩:=hS
 unfold maxLen at s2
 obtain ⟨W0,hW0,hbx,hx0,hz⟩:=box_facts w [.int .i64 b.roots,v1,.slice aas b.sites.length ks,.int .i64 b.edges,v4,v5] 44
 have ps:=(hbx 2 _ rfl).1
 have hzz:w.heap.size<W0.heap.size:=by omega
 clear hz hbx
 obtain ⟨i0,hi0,hz0,hz1,hz2⟩:=info_parts infoInt
 have hrow0:RowL 1 IntP 3 W0.heap.size (W0.alloc (.cells #[] 3)) (.slice (some ⟨W0.heap.size,0,none⟩) 0 0) []:=RowL.made (Nat.le_refl _)
 go_enter Tryz.func242,Tryz.ntmps242
 go_wp2
 go_loopw [5,6] (fun v c wr=>∃i:Nat,c=.int .i64 i∧i≤b.sites.length∧RowL 1 IntP 3 W0.heap.size wr v (idxOf (holeF b p) i)∧Ext W0 wr) (fun _ c _=>b.sites.length - (intOf c).toNat)
 case atStart=>exact ⟨0,rfl,Nat.zero_le _,hrow0,xw⟩
 case round=>
  obtain ⟨i,rfl,hi',hrow,hx⟩:=hrel
  replace ps:=hx.keep ps
  have hX:Ext w wr:=xw
  by_cases hlt:i<b.sites.length
  ·have HF:=Lib.hid (holeF_at b p i hlt)
   rcases s4 with s4|⟨bs,os,rfl,sb1,sb2,s4⟩
   ·rw [s4] at hlt;simp at hlt
   obtain ⟨cs,hl,⟨rfl,e1⟩,hc⟩:=s4 i hlt
   have q0:=hX.keep (hc 0 _ rfl)
   rw [Nat.mul_one,Nat.add_zero] at q0
   clear hc s4
   have hsz:=Below.size hx
   have hL:=idxOf_len (holeF b p) i
   by_cases hp:b.sites[i]=p
   ·have ep:(b.sites[i] == p)=true:=beq_iff_eq.2 hp
    have HT:=Lib.hid (idxOf_yes (f:=holeF b p) (n:=i) (by rw [HF.out];simpa using hp))
    clear hp
    go_wp2_with (at_builtin;refine wpList_append_row2 IntP.keeps rfl (.tmp 22) (.tmp 24) 23 rfl (W0.heap.size) 3 i0 _ 8 Tryz.underlying23 hi0 hz0 hz1 hz2 rfl (by decide) _ _ (by rfl) (hrow.ext IntP.keeps xw) ⟨wr.heap.size,0,none⟩ 1 [.int .i64 i] rfl rfl (one_cell (by simp)) (by simp [Value.oneCell']) (W0.heap.size) (W0.heap.size) (Nat.le_refl _) (by first|omega|(simp;omega)) (fun g hg=>.inr (hrow.block g hg).1) ((i:Int)) ⟨rfl,i64_nat (by omega)⟩ (by first|omega|(simp;omega)) (by decide) (by first|omega|(simp;omega)) ?_;intro v3 w3 row3 ext3 gro3 own3)
    have hx3:=ext3 W0 xw (Nat.le_refl _)
    go_roundw
    case rel=>exact ⟨i+1,rfl,by omega,by rw [HT.out];exact row3,xw⟩
    ·simp only [intOf];omega
   ·have ep:(b.sites[i] == p)=false:=beq_eq_false_iff_ne.2 hp
    have HT:=Lib.hid (idxOf_no (f:=holeF b p) (n:=i) (by rw [HF.out];simpa using hp))
    clear hp
    go_wp2
    go_roundw
    case rel=>exact ⟨i+1,rfl,by omega,by rw [HT.out];exact hrow,xw⟩
    ·simp only [intOf];omega
  ·have e:i=b.sites.length:=by omega
   subst e
   go_wp2
   go_ret
   exact ⟨_,rfl,hrow.toSlV IntP.widens (by omega),hX⟩
set_option maxRecDepth 100000 in
set_option maxHeartbeats 1600000 in
theorem c_spec_l2Ends (lo hi:Nat) (cs:List Value) (b:Big) (l:Int) (w:World) (h:BigP lo hi w cs b) (hlen:b.inner.length≤1048576) :
 Calls Tryz.prog 254 #[.agg cs.toArray,.int .i64 l] w fun e w'=>∃v,e=.returned v∧SlV 1 StrP w.heap.size w'.heap.size w' v (endsL b l)∧Ext w w':=by
 obtain ⟨v1,v2,v4,v5,rfl,r1,r2,hN,hS,hO,hI⟩:=h
 obtain ⟨aai,ki,rfl,i1,i2,i3,i4⟩:=hI
 unfold maxLen at i2
 obtain ⟨W0,hW0,hbx,hx0,hz⟩:=box_facts w [.int .i64 b.roots,v1,v2,.int .i64 b.edges,v4,.slice aai b.inner.length ki] 44
 have pi:=(hbx 5 _ rfl).1
 have hzz:w.heap.size<W0.heap.size:=by omega
 clear hz hbx
 obtain ⟨i0,hi0,hz0,hz1,hz2⟩:=info_parts infoStr
 have hrow0:RowL 1 StrP 9 W0.heap.size (W0.alloc (.cells #[] 9)) (.slice (some ⟨W0.heap.size,0,none⟩) 0 0) []:=RowL.made (Nat.le_refl _)
 go_enter Tryz.func254,Tryz.ntmps254
 go_wp2
 go_loopw [5,6] (fun v c wr=>∃i:Nat,c=.int .i64 i∧i≤b.inner.length∧RowL 1 StrP 9 W0.heap.size wr v (endsTo b l i)∧Ext W0 wr) (fun _ c _=>b.inner.length - (intOf c).toNat)
 case atStart=>exact ⟨0,rfl,Nat.zero_le _,hrow0,xw⟩
 case round=>
  obtain ⟨i,rfl,hi',hrow,hx⟩:=hrel
  replace pi:=hx.keep pi
  have hX:Ext w wr:=xw
  by_cases hlt:i<b.inner.length
  ·have HY:=Lib.hid (endsTo_yes (l:=l) hlt)
   have HN:=Lib.hid (endsTo_no (l:=l) hlt)
   rcases i4 with i4|⟨bi,oi,rfl,ib1,ib2,i4⟩
   ·rw [i4] at hlt;simp at hlt
   obtain ⟨cs,hl,⟨rfl,e1,e2⟩,hc⟩:=i4 i hlt
   have q0:=hX.keep (hc 0 _ rfl)
   have q1:=hX.keep (hc 1 _ rfl)
   rw [Nat.add_zero] at q0
   clear hc i4
   have hsz:=Below.size hx
   have hL:=endsTo_len b l i
   by_cases hp:(b.inner[i]).link=l
   ·have ep:((b.inner[i]).link == l)=true:=beq_iff_eq.2 hp
    have HT:=Lib.hid (HY.out hp)
    clear hp
    go_wp2_with (at_builtin;refine wpList_append_row2 StrP.keeps rfl (.tmp 23) (.tmp 30) 29 rfl (W0.heap.size) 9 i0 _ 16 Tryz.underlying29 hi0 hz0 hz1 hz2 rfl (by decide) _ _ (by rfl) (hrow.ext StrP.keeps xw) ⟨wr.heap.size,0,none⟩ 1 [.string (b.inner[i]).name] rfl rfl (one_cell (by simp)) (by simp [Value.oneCell']) (W0.heap.size) (W0.heap.size) (Nat.le_refl _) (by first|omega|(simp;omega)) (fun g hg=>.inr (hrow.block g hg).1) ((b.inner[i]).name) ⟨rfl,e1⟩ (by first|omega|(simp;omega)) (by decide) (by first|omega|(simp;omega)) ?_;intro v3 w3 row3 ext3 gro3 own3)
    have hx3:=ext3 W0 xw (Nat.le_refl _)
    go_roundw
    case rel=>exact ⟨i+1,rfl,by omega,by rw [HT.out];exact row3,xw⟩
    ·simp only [intOf];omega
   ·have ep:((b.inner[i]).link == l)=false:=beq_eq_false_iff_ne.2 hp
    have HT:=Lib.hid (HN.out hp)
    clear hp
    go_wp2
    go_roundw
    case rel=>exact ⟨i+1,rfl,by omega,by rw [HT.out];exact hrow,xw⟩
    ·simp only [intOf];omega
  ·have e:i=b.inner.length:=by omega
   subst e
   go_wp2
   go_ret
   exact ⟨_,rfl,hrow.toSlV StrP.widens (by omega),hX⟩
end Go.Proofs.YtccjepndhlobpaaGreatDoor

/-
  Walks: children, ports: two rows at once.
-/
namespace Go.Proofs.YtccjepndhlobpaaGreatDoor
open Go.RowKit
set_option linter.unusedVariables false
set_option linter.unusedSimpArgs false
theorem infoPr:∃i,Tryz.prog.info? 166=some i∧i.zero=some (.agg #[.int .i64 0,.int .i64 0])∧i.size=2∧i.bytes=16:=info_parts infoPair
theorem portsTo_len (b:Big) (l:Int):∀(n:Nat),n≤b.nodes.length→(∀i (h:i<b.nodes.length),(b.nodes[i]).links.length≤1000)→(portsTo b l n).length≤n * 1000:=by
 intro n
 induction n with
 | zero=>intro _ _;simp [portsTo]
 | succ n ih=>
  intro hn hl
  rw [portsTo_succ b l n (by omega),List.length_append]
  have h1:=ih (by omega) hl
  have h2:=portsAt_len (b.nodes[n]).links l n (b.nodes[n]).links.length
  have h3:=hl n (by omega)
  omega
theorem apart_step {v v' u:Value} {H:Nat} (own:v'.ownBlock=v.ownBlock∨v'.ownBlock=some H) (hne:∀g,u.ownBlock=some g→v.ownBlock≠some g) (hlt:∀g,u.ownBlock=some g→g<H):∀g,u.ownBlock=some g→v'.ownBlock≠some g:=
 fun g hg=>fresh_ne own (hne g hg) (hlt g hg)
theorem apart_swap {v u:Value} (h:∀g,u.ownBlock=some g→v.ownBlock≠some g):∀g,v.ownBlock=some g→u.ownBlock≠some g:=fun g hg hu=>h g hu hg
theorem empty_len {α:Type} (l:List α):l.isEmpty=decide (l.length=0):=by cases l <;> simp
attribute [local irreducible] inR nameB strLt
set_option maxRecDepth 100000 in
set_option maxHeartbeats 3200000 in
theorem c_spec_l2Ports (lo hi:Nat) (cs:List Value) (b:Big) (l:Int) (w:World) (h:BigP lo hi w cs b) (hlen:b.nodes.length≤1000) (hlinks:∀i (h:i<b.nodes.length),(b.nodes[i]).links.length≤1000) :
 Calls Tryz.prog 211 #[.agg cs.toArray,.int .i64 l] w fun e w'=>∃v,e=.returned v∧SlV 2 PairP w.heap.size w'.heap.size w' v (portsL b l)∧Ext w w':=by
 obtain ⟨v1,v2,v4,v5,rfl,r1,r2,hN,hS,hO,hI⟩:=h
 obtain ⟨aan,kn,rfl,n1,n2,n3,n4⟩:=hN
 unfold maxLen at n2
 obtain ⟨W0,hW0,hbx,hx0,hz⟩:=box_facts w [.int .i64 b.roots,.slice aan b.nodes.length kn,v2,.int .i64 b.edges,v4,v5] 44
 have pn:=(hbx 1 _ rfl).1
 have hzz:w.heap.size<W0.heap.size:=by omega
 clear hz hbx
 obtain ⟨i0,hi0,hz0,hz1,hz2⟩:=infoPr
 have hrow0:RowL 2 PairP 166 W0.heap.size (W0.alloc (.cells #[] 166)) (.slice (some ⟨W0.heap.size,0,none⟩) 0 0) []:=RowL.made (Nat.le_refl _)
 go_enter Tryz.func211,Tryz.ntmps211
 go_wp2
 go_loopw [5,6,7] (fun v c _ wr=>∃i:Nat,c=.int .i64 i∧i≤b.nodes.length∧RowL 2 PairP 166 W0.heap.size wr v (portsTo b l i)∧Ext W0 wr) (fun _ c _ _=>b.nodes.length - (intOf c).toNat)
 case atStart=>exact ⟨0,rfl,Nat.zero_le _,hrow0,xw⟩
 case round=>
  obtain ⟨i,rfl,hi',hrow,hx⟩:=hrel
  have pn1:=hx.keep pn
  have hX:Ext w wr:=hx0.trans hx
  by_cases hlt:i<b.nodes.length
  ·have HPS:=Lib.hid (portsTo_succ b l i hlt)
   have hll:=hlinks i hlt
   have hpl:=portsTo_len b l i hi' hlinks
   rcases n4 with n4|⟨bn,on,rfl,nb1,nb2,n4⟩
   ·rw [n4] at hlt;simp at hlt
   obtain ⟨cs,hl,hnp,hc⟩:=n4 i hlt
   generalize b.nodes[i]=nd at hnp HPS hll
   obtain ⟨nc,np,nl⟩:=nd
   obtain ⟨nv,rfl,e1,e2,e3⟩:=hnp
   have q2w:=hc 2 _ rfl
   have q2:=hX.keep q2w
   obtain ⟨la,lk,rfl,y1,y2,y3,y4⟩:=e3
   dsimp only at *
   unfold maxLen at y2
   clear hc n4
   go_wp2
   go_loopw [5,7] (fun v c wi=>∃k:Nat,c=.int .i64 k∧k≤nl.length∧RowL 2 PairP 166 W0.heap.size wi v (portsTo b l i++portsAt nl l i k)∧Ext W0 wi) (fun _ c _=>nl.length - (intOf c).toNat)
   case atStart=>exact ⟨0,rfl,Nat.zero_le _,by simpa [portsAt] using hrow,hx⟩
   case round=>
    obtain ⟨k,rfl,hk',hrowi,hxi⟩:=hrel
    have pn2:=hxi.keep pn
    have hXi:Ext w wr:=hx0.trans hxi
    have q3:=hXi.keep q2w
    by_cases hkl:k<nl.length
    ·have HY:=Lib.hid (portsAt_yes (l:=l) (i:=i) hkl)
     have HN:=Lib.hid (portsAt_no (l:=l) (i:=i) hkl)
     rcases y4 with y4|⟨b3,o3,rfl,yb1,yb2,y4⟩
     ·rw [y4] at hkl;simp at hkl
     obtain ⟨es,el,⟨rfl,f1⟩,hes⟩:=y4 k hkl
     have t0:=hXi.keep (hes 0 _ rfl)
     rw [Nat.mul_one,Nat.add_zero] at t0
     clear hes y4
     have hsz:=Below.size hxi
     have hL:=portsAt_len nl l i k
     have hLL:(portsTo b l i++portsAt nl l i k).length=(portsTo b l i).length+(portsAt nl l i k).length:=List.length_append
     have hL2:(portsTo b l i++portsAt nl l i k).length≤2000000:=by omega
     clear hLL
     by_cases hp:nl[k]=l
     ·have ep:(nl[k] == l)=true:=beq_iff_eq.2 hp
      have HT:=Lib.hid (HY.out hp)
      clear hp
      go_wp2_with (at_builtin;refine wpList_append_row2 PairP.keeps rfl (.tmp 38) (.tmp 42) 25 rfl (W0.heap.size) 166 i0 _ 16 Tryz.underlying25 hi0 hz0 hz1 hz2 rfl (by decide) _ _ (by rfl) (hrowi.ext PairP.keeps xw) ⟨wr.heap.size,0,none⟩ 1 [.int .i64 i,.int .i64 k] rfl rfl (one_cell (by simp)) (by simp [Value.oneCell']) (W0.heap.size) (W0.heap.size) (Nat.le_refl _) (by first|omega|(simp;omega)) (fun g hg=>.inr (hrowi.block g hg).1) (((i:Int),(k:Int))) ⟨rfl,i64_nat (by omega),i64_nat (by omega)⟩ (by first|omega|(simp;omega)) (by decide) (by first|omega|(simp;omega)) ?_;intro v3 w3 row3 ext3 gro3 own3)
      have hx3:=ext3 W0 xw (Nat.le_refl _)
      go_roundw
      case rel=>exact ⟨k+1,rfl,by omega,by rw [HT.out,← List.append_assoc];exact row3,xw⟩
      ·simp only [intOf];omega
     ·have ep:(nl[k] == l)=false:=beq_eq_false_iff_ne.2 hp
      have HT:=Lib.hid (HN.out hp)
      clear hp
      go_wp2
      go_roundw
      case rel=>exact ⟨k+1,rfl,by omega,by rw [HT.out];exact hrowi,xw⟩
      ·simp only [intOf];omega
    ·have e:k=nl.length:=by omega
     subst e
     go_wp2
     go_roundw
     case rel=>exact ⟨i+1,rfl,by omega,by rw [HPS.out];exact hrowi,xw⟩
     ·simp only [intOf];omega
  ·have e:i=b.nodes.length:=by omega
   subst e
   go_wp2
   go_ret
   exact ⟨_,rfl,hrow.toSlV PairP.widens (by omega),hX⟩
set_option maxRecDepth 100000 in
set_option maxHeartbeats 3200000 in
theorem c_impl_Bigraph_childrenOf (lo hi:Nat) (cs:List Value) (b:Big) (p:Int) (w:World) (h:BigP lo hi w cs b) (hlen:b.nodes.length≤1000) (hlen2:b.sites.length≤1000) :
 Calls Tryz.prog 214 #[.agg cs.toArray,.int .i64 p] w fun e w'=>∃v v',e=.returned (.tuple #[v,v'])∧SlV 1 IntP w.heap.size w'.heap.size w' v (kidsL b p)∧SlV 1 IntP w.heap.size w'.heap.size w' v' (holesL b p)∧Ext w w':=by
 obtain ⟨v1,v2,v4,v5,rfl,r1,r2,hN,hS,hO,hI⟩:=h
 obtain ⟨aan,kn,rfl,n1,n2,n3,n4⟩:=hN
 obtain ⟨aas,ks,rfl,s1,s2,s3,s4⟩:=hS
 unfold maxLen at n2 s2
 obtain ⟨W0,hW0,hbx,hx0,hz⟩:=box_facts w [.int .i64 b.roots,.slice aan b.nodes.length kn,.slice aas b.sites.length ks,.int .i64 b.edges,v4,v5] 44
 have pn:=(hbx 1 _ rfl).1
 have ps:=(hbx 2 _ rfl).1
 have hzz:w.heap.size<W0.heap.size:=by omega
 clear hz hbx
 obtain ⟨i0,hi0,hz0,hz1,hz2⟩:=info_parts infoInt
 have hrowa:RowL 1 IntP 3 W0.heap.size ((W0.alloc (.cells #[] 3)).alloc (.cells #[] 3)) (.slice (some ⟨W0.heap.size,0,none⟩) 0 0) []:=(RowL.made (Nat.le_refl _)).ext IntP.keeps xw
 have hrowb:RowL 1 IntP 3 W0.heap.size ((W0.alloc (.cells #[] 3)).alloc (.cells #[] 3)) (.slice (some ⟨W0.heap.size+1,0,none⟩) 0 0) []:=by
  have:=RowL.made (size:=1) (P:=IntP) (e:=3) (base:=W0.heap.size) (w:=W0.alloc (.cells #[] 3)) (by simp)
  simpa using this
 have hab:∀g,(Value.slice (some ⟨W0.heap.size+1,0,none⟩) 0 0).ownBlock=some g→(Value.slice (some ⟨W0.heap.size,0,none⟩) 0 0).ownBlock≠some g:=by
  intro g hg hh;simp [Value.ownBlock] at hg hh;omega
 go_enter Tryz.func214,Tryz.ntmps214
 go_wp2
 go_loopw [17,6] (fun c v wr=>∃i:Nat,c=.int .i64 i∧i≤b.nodes.length∧RowL 1 IntP 3 W0.heap.size wr v (idxOf (kidF b p) i)∧RowL 1 IntP 3 W0.heap.size wr (.slice (some ⟨W0.heap.size+1,0,none⟩) 0 0) []∧(∀g,(Value.slice (some ⟨W0.heap.size+1,0,none⟩) 0 0).ownBlock=some g→v.ownBlock≠some g)∧Ext W0 wr) (fun c _ _=>b.nodes.length - (intOf c).toNat)
 case atStart=>exact ⟨0,rfl,Nat.zero_le _,hrowa,hrowb,hab,xw⟩
 case round=>
  obtain ⟨i,rfl,hi',hrow,hrow2,hne,hx⟩:=hrel
  have HNE:=Lib.hid hne
  clear hne
  have pn1:=hx.keep pn
  have ps1:=hx.keep ps
  have hX:Ext w wr:=hx0.trans hx
  by_cases hlt:i<b.nodes.length
  ·have HF:=Lib.hid (kidF_at b p i hlt)
   rcases n4 with n4|⟨bn,on,rfl,nb1,nb2,n4⟩
   ·rw [n4] at hlt;simp at hlt
   obtain ⟨cs,hl,⟨nv,rfl,e1,e2,⟨la,lk,rfl,y1,y2,y3,y4⟩⟩,hc⟩:=n4 i hlt
   have q0:=hX.keep (hc 0 _ rfl)
   have q1:=hX.keep (hc 1 _ rfl)
   have q2:=hX.keep (hc 2 _ rfl)
   rw [Nat.add_zero] at q0
   clear hc n4
   have hsz:=Below.size hx
   have hL:=idxOf_len (kidF b p) i
   by_cases hp:(b.nodes[i]).parent=p
   ·have ep:((b.nodes[i]).parent == p)=true:=beq_iff_eq.2 hp
    have HT:=Lib.hid (idxOf_yes (f:=kidF b p) (n:=i) (by rw [HF.out];simpa using hp))
    clear hp
    go_wp2_with (at_builtin;refine wpList_append_row2 IntP.keeps rfl (.tmp 26) (.tmp 28) 23 rfl (W0.heap.size) 3 i0 _ 8 Tryz.underlying23 hi0 hz0 hz1 hz2 rfl (by decide) _ _ (by rfl) (hrow.ext IntP.keeps xw) ⟨wr.heap.size+1,0,none⟩ 1 [.int .i64 i] rfl rfl (one_cell (by simp)) (by simp [Value.oneCell']) (W0.heap.size) (W0.heap.size) (Nat.le_refl _) (by first|omega|(simp;omega)) (fun g hg=>.inr (hrow.block g hg).1) ((i:Int)) ⟨rfl,i64_nat (by omega)⟩ (by first|omega|(simp;omega)) (by decide) (by first|omega|(simp;omega)) ?_;intro v3 w3 row3 ext3 gro3 own3)
    have hx3:=ext3 W0 xw (Nat.le_refl _)
    have row4:=(hrow2.ext IntP.keeps xw).kept IntP.flat gro3 HNE.out
    have hne3:=apart_step own3 HNE.out (fun g hg=>by have:=hrow2.block g hg;simp;omega)
    go_roundw
    case rel=>exact ⟨i+1,rfl,by omega,by rw [HT.out];exact row3,row4,hne3,hx3⟩
    ·simp only [intOf];omega
   ·have ep:((b.nodes[i]).parent == p)=false:=beq_eq_false_iff_ne.2 hp
    have HT:=Lib.hid (idxOf_no (f:=kidF b p) (n:=i) (by rw [HF.out];simpa using hp))
    clear hp
    go_wp2
    go_roundw
    case rel=>exact ⟨i+1,rfl,by omega,by rw [HT.out];exact hrow.ext IntP.keeps xw,hrow2.ext IntP.keeps xw,HNE.out,xw⟩
    ·simp only [intOf];omega
  ·have e:i=b.nodes.length:=by omega
   subst e
   clear hab hrowa hrowb
   have hrk:=hrow
   go_wp2
   go_loopw [34,7] (fun c u wr=>∃i:Nat,c=.int .i64 i∧i≤b.sites.length∧RowL 1 IntP 3 W0.heap.size wr u (idxOf (holeF b p) i)∧RowL 1 IntP 3 W0.heap.size wr u6 (kidsL b p)∧(∀g,u6.ownBlock=some g→u.ownBlock≠some g)∧Ext W0 wr) (fun c _ _=>b.sites.length - (intOf c).toNat)
   case atStart=>exact ⟨0,rfl,Nat.zero_le _,hrow2,hrow,apart_swap HNE.out,hx⟩
   case round=>
    obtain ⟨i,rfl,hi',hrow7,hrow6,hne,hx⟩:=hrel
    have HNE:=Lib.hid hne
    clear hne
    have ps1:=hx.keep ps
    have hX:Ext w wr:=hx0.trans hx
    by_cases hlt:i<b.sites.length
    ·have HF:=Lib.hid (holeF_at b p i hlt)
     rcases s4 with s4|⟨bs,os,rfl,sb1,sb2,s4⟩
     ·rw [s4] at hlt;simp at hlt
     obtain ⟨cs,hl,⟨rfl,e1⟩,hc⟩:=s4 i hlt
     have q0:=hX.keep (hc 0 _ rfl)
     rw [Nat.mul_one,Nat.add_zero] at q0
     clear hc s4
     have hsz:=Below.size hx
     have hL:=idxOf_len (holeF b p) i
     by_cases hp:b.sites[i]=p
     ·have ep:(b.sites[i] == p)=true:=beq_iff_eq.2 hp
      have HT:=Lib.hid (idxOf_yes (f:=holeF b p) (n:=i) (by rw [HF.out];simpa using hp))
      clear hp
      go_wp2_with (at_builtin;refine wpList_append_row2 IntP.keeps rfl (.tmp 42) (.tmp 44) 23 rfl (W0.heap.size) 3 i0 _ 8 Tryz.underlying23 hi0 hz0 hz1 hz2 rfl (by decide) _ _ (by rfl) (hrow7.ext IntP.keeps xw) ⟨wr.heap.size,0,none⟩ 1 [.int .i64 i] rfl rfl (one_cell (by simp)) (by simp [Value.oneCell']) (W0.heap.size) (W0.heap.size) (Nat.le_refl _) (by first|omega|(simp;omega)) (fun g hg=>.inr (hrow7.block g hg).1) ((i:Int)) ⟨rfl,i64_nat (by omega)⟩ (by first|omega|(simp;omega)) (by decide) (by first|omega|(simp;omega)) ?_;intro v3 w3 row3 ext3 gro3 own3)
      have hx3:=ext3 W0 xw (Nat.le_refl _)
      have row4:=(hrow6.ext IntP.keeps xw).kept IntP.flat gro3 HNE.out
      have hne3:=apart_step own3 HNE.out (fun g hg=>by have:=hrow6.block g hg;simp;omega)
      go_roundw
      case rel=>exact ⟨i+1,rfl,by omega,by rw [HT.out];exact row3,row4,hne3,hx3⟩
      ·simp only [intOf];omega
     ·have ep:(b.sites[i] == p)=false:=beq_eq_false_iff_ne.2 hp
      have HT:=Lib.hid (idxOf_no (f:=holeF b p) (n:=i) (by rw [HF.out];simpa using hp))
      clear hp
      go_wp2
      go_roundw
      case rel=>exact ⟨i+1,rfl,by omega,by rw [HT.out];exact hrow7,hrow6,HNE.out,xw⟩
      ·simp only [intOf];omega
    ·have e:i=b.sites.length:=by omega
     subst e
     go_wp2
     go_ret2
     exact ⟨_,_,rfl,hrow6.toSlV IntP.widens (by omega),hrow7.toSlV IntP.widens (by omega),hX⟩
set_option maxRecDepth 100000 in
set_option maxHeartbeats 3200000 in
theorem c_impl_Bigraph_pointsOf (lo hi:Nat) (cs:List Value) (b:Big) (l:Int) (w:World) (h:BigP lo hi w cs b) (hlen:b.nodes.length≤1000) (hlinks:∀i (h:i<b.nodes.length),(b.nodes[i]).links.length≤1000) (hlen2:b.inner.length≤1048576) :
 Calls Tryz.prog 222 #[.agg cs.toArray,.int .i64 l] w fun e w'=>∃v v',e=.returned (.tuple #[v,v'])∧SlV 2 PairP w.heap.size w'.heap.size w' v (portsL b l)∧SlV 1 StrP w.heap.size w'.heap.size w' v' (endsL b l)∧Ext w w':=by
 obtain ⟨v1,v2,v4,v5,rfl,r1,r2,hN,hS,hO,hI⟩:=h
 obtain ⟨aan,kn,rfl,n1,n2,n3,n4⟩:=hN
 obtain ⟨aai,ki,rfl,i1,i2,i3,i4⟩:=hI
 unfold maxLen at n2 i2
 obtain ⟨W0,hW0,hbx,hx0,hz⟩:=box_facts w [.int .i64 b.roots,.slice aan b.nodes.length kn,v2,.int .i64 b.edges,v4,.slice aai b.inner.length ki] 44
 have pn:=(hbx 1 _ rfl).1
 have pi:=(hbx 5 _ rfl).1
 have hzz:w.heap.size<W0.heap.size:=by omega
 clear hz hbx
 obtain ⟨i0,hi0,hz0,hz1,hz2⟩:=infoPr
 obtain ⟨j0,hj0,hy0,hy1,hy2⟩:=info_parts infoStr
 have hrowa:RowL 2 PairP 166 W0.heap.size ((W0.alloc (.cells #[] 166)).alloc (.cells #[] 9)) (.slice (some ⟨W0.heap.size,0,none⟩) 0 0) []:=(RowL.made (Nat.le_refl _)).ext PairP.keeps xw
 have hrowb:RowL 1 StrP 9 W0.heap.size ((W0.alloc (.cells #[] 166)).alloc (.cells #[] 9)) (.slice (some ⟨W0.heap.size+1,0,none⟩) 0 0) []:=by
  have:=RowL.made (size:=1) (P:=StrP) (e:=9) (base:=W0.heap.size) (w:=W0.alloc (.cells #[] 166)) (by simp)
  simpa using this
 have hab:∀g,(Value.slice (some ⟨W0.heap.size+1,0,none⟩) 0 0).ownBlock=some g→(Value.slice (some ⟨W0.heap.size,0,none⟩) 0 0).ownBlock≠some g:=by
  intro g hg hh;simp [Value.ownBlock] at hg hh;omega
 go_enter Tryz.func222,Tryz.ntmps222
 go_wp2
 go_loopw [19,6] (fun c v wr=>∃i:Nat,c=.int .i64 i∧i≤b.nodes.length∧RowL 2 PairP 166 W0.heap.size wr v (portsTo b l i)∧RowL 1 StrP 9 W0.heap.size wr (Value.slice (some ⟨W0.heap.size+1,0,none⟩) 0 0) []∧(∀g,(Value.slice (some ⟨W0.heap.size+1,0,none⟩) 0 0).ownBlock=some g→v.ownBlock≠some g)∧Ext W0 wr) (fun c _ _=>b.nodes.length - (intOf c).toNat)
 case atStart=>exact ⟨0,rfl,Nat.zero_le _,hrowa,hrowb,hab,xw⟩
 case round=>
  obtain ⟨i,rfl,hi',hrow,hrow2,hne,hx⟩:=hrel
  have HNE:=Lib.hid hne
  clear hne
  have pn1:=hx.keep pn
  have pi1:=hx.keep pi
  have hX:Ext w wr:=hx0.trans hx
  by_cases hlt:i<b.nodes.length
  ·have HPS:=Lib.hid (portsTo_succ b l i hlt)
   have hll:=hlinks i hlt
   have hpl:=portsTo_len b l i hi' hlinks
   rcases n4 with n4|⟨bn,on,rfl,nb1,nb2,n4⟩
   ·rw [n4] at hlt;simp at hlt
   obtain ⟨cs,hl,hnp,hc⟩:=n4 i hlt
   generalize b.nodes[i]=nd at hnp HPS hll
   obtain ⟨nc,np,nl⟩:=nd
   obtain ⟨nv,rfl,e1,e2,e3⟩:=hnp
   have q0:=hX.keep (hc 0 _ rfl)
   have q1:=hX.keep (hc 1 _ rfl)
   have q2:=hX.keep (hc 2 _ rfl)
   rw [Nat.add_zero] at q0
   obtain ⟨la,lk,rfl,y1,y2,y3,y4⟩:=e3
   dsimp only at *
   unfold maxLen at y2
   clear hc n4
   go_wp2
   go_loopw [27,6] (fun c v wi=>∃k:Nat,c=.int .i64 k∧k≤nl.length∧RowL 2 PairP 166 W0.heap.size wi v (portsTo b l i++portsAt nl l i k)∧RowL 1 StrP 9 W0.heap.size wi (Value.slice (some ⟨W0.heap.size+1,0,none⟩) 0 0) []∧(∀g,(Value.slice (some ⟨W0.heap.size+1,0,none⟩) 0 0).ownBlock=some g→v.ownBlock≠some g)∧Ext W0 wi) (fun c _ _=>nl.length - (intOf c).toNat)
   case atStart=>exact ⟨0,rfl,Nat.zero_le _,by simpa [portsAt] using hrow.ext PairP.keeps xw,hrow2.ext StrP.keeps xw,HNE.out,xw⟩
   case round=>
    obtain ⟨k,rfl,hk',hrowi,hrowi2,hnei,hxi⟩:=hrel
    have HNEI:=Lib.hid hnei
    clear hnei
    have hXi:Ext w wr:=hx0.trans hxi
    by_cases hkl:k<nl.length
    ·have HY:=Lib.hid (portsAt_yes (l:=l) (i:=i) hkl)
     have HN:=Lib.hid (portsAt_no (l:=l) (i:=i) hkl)
     rcases y4 with y4|⟨b3,o3,rfl,yb1,yb2,y4⟩
     ·rw [y4] at hkl;simp at hkl
     obtain ⟨es,el,⟨rfl,f1⟩,hes⟩:=y4 k hkl
     have t0:=hXi.keep (hes 0 _ rfl)
     rw [Nat.mul_one,Nat.add_zero] at t0
     clear hes y4
     have hsz:=Below.size hxi
     have hL:=portsAt_len nl l i k
     have hLL:(portsTo b l i++portsAt nl l i k).length=(portsTo b l i).length+(portsAt nl l i k).length:=List.length_append
     have hL2:(portsTo b l i++portsAt nl l i k).length≤2000000:=by omega
     clear hLL
     by_cases hp:nl[k]=l
     ·have ep:(nl[k] == l)=true:=beq_iff_eq.2 hp
      have HT:=Lib.hid (HY.out hp)
      clear hp
      go_wp2_with (at_builtin;refine wpList_append_row2 PairP.keeps rfl (.tmp 35) (.tmp 39) 25 rfl (W0.heap.size) 166 i0 _ 16 Tryz.underlying25 hi0 hz0 hz1 hz2 rfl (by decide) _ _ (by rfl) (hrowi.ext PairP.keeps xw) ⟨wr.heap.size,0,none⟩ 1 [.int .i64 i,.int .i64 k] rfl rfl (one_cell (by simp)) (by simp [Value.oneCell']) (W0.heap.size) (W0.heap.size) (Nat.le_refl _) (by first|omega|(simp;omega)) (fun g hg=>.inr (hrowi.block g hg).1) (((i:Int),(k:Int))) ⟨rfl,i64_nat (by omega),i64_nat (by omega)⟩ (by first|omega|(simp;omega)) (by decide) (by first|omega|(simp;omega)) ?_;intro v3 w3 row3 ext3 gro3 own3)
      have hx3:=ext3 W0 xw (Nat.le_refl _)
      have row4:=(hrowi2.ext StrP.keeps xw).kept StrP.flat gro3 HNEI.out
      have hne3:=apart_step own3 HNEI.out (fun g hg=>by have:=hrowi2.block g hg;simp;omega)
      go_roundw
      case rel=>exact ⟨k+1,rfl,by omega,by rw [HT.out,← List.append_assoc];exact row3,row4,hne3,hx3⟩
      ·simp only [intOf];omega
     ·have ep:(nl[k] == l)=false:=beq_eq_false_iff_ne.2 hp
      have HT:=Lib.hid (HN.out hp)
      clear hp
      go_wp2
      go_roundw
      case rel=>exact ⟨k+1,rfl,by omega,by rw [HT.out];exact hrowi,hrowi2,HNEI.out,xw⟩
      ·simp only [intOf];omega
    ·have e:k=nl.length:=by omega
     subst e
     go_wp2
     go_roundw
     case rel=>exact ⟨i+1,rfl,by omega,by rw [HPS.out];exact hrowi,hrowi2,HNEI.out,hxi⟩
     ·simp only [intOf];omega
  ·have e:i=b.nodes.length:=by omega
   subst e
   clear hab hrowa hrowb
   have hpl:=portsTo_len b l b.nodes.length (Nat.le_refl _) hlinks
   go_wp2
   go_loopw [46,7] (fun c u wr=>∃i:Nat,c=.int .i64 i∧i≤b.inner.length∧RowL 1 StrP 9 W0.heap.size wr u (endsTo b l i)∧RowL 2 PairP 166 W0.heap.size wr u6 (portsL b l)∧(∀g,u6.ownBlock=some g→u.ownBlock≠some g)∧Ext W0 wr) (fun c _ _=>b.inner.length - (intOf c).toNat)
   case atStart=>exact ⟨0,rfl,Nat.zero_le _,hrow2,hrow,apart_swap HNE.out,hx⟩
   case round=>
    obtain ⟨i,rfl,hi',hrow7,hrow6,hne,hx⟩:=hrel
    have HNE2:=Lib.hid hne
    clear hne
    have pi1:=hx.keep pi
    have hX:Ext w wr:=hx0.trans hx
    by_cases hlt:i<b.inner.length
    ·have HY:=Lib.hid (endsTo_yes (l:=l) hlt)
     have HN:=Lib.hid (endsTo_no (l:=l) hlt)
     rcases i4 with i4|⟨bi,oi,rfl,ib1,ib2,i4⟩
     ·rw [i4] at hlt;simp at hlt
     obtain ⟨cs,hl,⟨rfl,e1,e2⟩,hc⟩:=i4 i hlt
     have q0:=hX.keep (hc 0 _ rfl)
     have q1:=hX.keep (hc 1 _ rfl)
     rw [Nat.add_zero] at q0
     clear hc i4
     have hsz:=Below.size hx
     have hL:=endsTo_len b l i
     by_cases hp:(b.inner[i]).link=l
     ·have ep:((b.inner[i]).link == l)=true:=beq_iff_eq.2 hp
      have HT:=Lib.hid (HY.out hp)
      clear hp
      go_wp2_with (at_builtin;refine wpList_append_row2 StrP.keeps rfl (.tmp 54) (.tmp 57) 29 rfl (W0.heap.size) 9 j0 _ 16 Tryz.underlying29 hj0 hy0 hy1 hy2 rfl (by decide) _ _ (by rfl) (hrow7.ext StrP.keeps xw) ⟨wr.heap.size+1,0,none⟩ 1 [.string (b.inner[i]).name] rfl rfl (one_cell (by simp)) (by simp [Value.oneCell']) (W0.heap.size) (W0.heap.size) (Nat.le_refl _) (by first|omega|(simp;omega)) (fun g hg=>.inr (hrow7.block g hg).1) ((b.inner[i]).name) ⟨rfl,e1⟩ (by first|omega|(simp;omega)) (by decide) (by first|omega|(simp;omega)) ?_;intro v3 w3 row3 ext3 gro3 own3)
      have hx3:=ext3 W0 xw (Nat.le_refl _)
      have row4:=(hrow6.ext PairP.keeps xw).kept PairP.flat gro3 HNE2.out
      have hne3:=apart_step own3 HNE2.out (fun g hg=>by have:=hrow6.block g hg;simp;omega)
      go_roundw
      case rel=>exact ⟨i+1,rfl,by omega,by rw [HT.out];exact row3,row4,hne3,hx3⟩
      ·simp only [intOf];omega
     ·have ep:((b.inner[i]).link == l)=false:=beq_eq_false_iff_ne.2 hp
      have HT:=Lib.hid (HN.out hp)
      clear hp
      go_wp2
      go_roundw
      case rel=>exact ⟨i+1,rfl,by omega,by rw [HT.out];exact hrow7.ext StrP.keeps xw,hrow6.ext PairP.keeps xw,HNE2.out,xw⟩
      ·simp only [intOf];omega
    ·have e:i=b.inner.length:=by omega
     subst e
     go_wp2
     go_ret2
     exact ⟨_,_,rfl,hrow6.toSlV PairP.widens (by omega),hrow7.toSlV StrP.widens (by omega),hX⟩
set_option maxHeartbeats 1600000 in
theorem c_impl_Bigraph_isIdle (lo hi:Nat) (cs:List Value) (b:Big) (l:Int) (w:World) (h:BigP lo hi w cs b) (hlen:b.nodes.length≤1000) (hlinks:∀i (h:i<b.nodes.length),(b.nodes[i]).links.length≤1000) (hlen2:b.inner.length≤1048576) :
 Calls Tryz.prog 215 #[.agg cs.toArray,.int .i64 l] w fun e w'=>e=.returned (.bool (idleB b l))∧Ext w w':=by
 have hB:=h
 obtain ⟨v1,v2,v4,v5,rfl,r1,r2,hN,hS,hO,hI⟩:=h
 obtain ⟨W0,hW0,hbx,hx0,hz⟩:=box_facts w [.int .i64 b.roots,v1,v2,.int .i64 b.edges,v4,v5] 44
 have p0:=(hbx 0 _ rfl).1
 have p1:=(hbx 1 _ rfl).1
 have p2:=(hbx 2 _ rfl).1
 have p3:=(hbx 3 _ rfl).1
 have p4:=(hbx 4 _ rfl).1
 have p5:=(hbx 5 _ rfl).1
 clear hz hbx
 replace hB:=BigP.keeps _ _ _ _ _ _ (Same.ext hx0) hB
 have hpl:(portsL b l).length≤1000000:=by have:=portsTo_len b l b.nodes.length (Nat.le_refl _) hlinks;unfold portsL;omega
 have hel:(endsL b l).length≤1048576:=by have:=endsTo_len b l b.inner.length;unfold endsL;omega
 have HI:=Lib.hid (show idleB b l=(decide ((portsL b l).length=0) && decide ((endsL b l).length=0)) by unfold idleB;rw [empty_len,empty_len])
 go_enter Tryz.func215,Tryz.ntmps215
 go_wp2_with fail
 refine (c_impl_Bigraph_pointsOf lo hi [.int .i64 b.roots,v1,v2,.int .i64 b.edges,v4,v5] b l _ hB hlen hlinks hlen2).mono ?_
 rintro e y ⟨u,u',rfl,hU,hU',hb⟩
 obtain ⟨ua,uk,rfl,z1,z2,z3,z4⟩:=hU
 obtain ⟨ua',uk',rfl,z1',z2',z3',z4'⟩:=hU'
 clear z4 z4'
 go_wp2
 go_ret
 exact ⟨ret_bool (by rw [HI.out,Bool.eq_iff_iff];simp only [beq_iff_eq,Bool.and_eq_true,decide_eq_true_eq];omega),xw⟩
set_option maxHeartbeats 1600000 in
theorem c_spec_l2Idle (lo hi:Nat) (cs:List Value) (b:Big) (l:Int) (w:World) (h:BigP lo hi w cs b) (hlen:b.nodes.length≤1000) (hlinks:∀i (h:i<b.nodes.length),(b.nodes[i]).links.length≤1000) (hlen2:b.inner.length≤1048576) :
 Calls Tryz.prog 243 #[.agg cs.toArray,.int .i64 l] w fun e w'=>e=.returned (.bool (idleB b l))∧Ext w w':=by
 have hB:=h
 obtain ⟨v1,v2,v4,v5,rfl,r1,r2,hN,hS,hO,hI⟩:=h
 obtain ⟨W0,hW0,hbx,hx0,hz⟩:=box_facts w [.int .i64 b.roots,v1,v2,.int .i64 b.edges,v4,v5] 44
 have p0:=(hbx 0 _ rfl).1
 have p1:=(hbx 1 _ rfl).1
 have p2:=(hbx 2 _ rfl).1
 have p3:=(hbx 3 _ rfl).1
 have p4:=(hbx 4 _ rfl).1
 have p5:=(hbx 5 _ rfl).1
 clear hz hbx
 replace hB:=BigP.keeps _ _ _ _ _ _ (Same.ext hx0) hB
 have hpl:(portsL b l).length≤1000000:=by have:=portsTo_len b l b.nodes.length (Nat.le_refl _) hlinks;unfold portsL;omega
 have hel:(endsL b l).length≤1048576:=by have:=endsTo_len b l b.inner.length;unfold endsL;omega
 have HI:=Lib.hid (show idleB b l=(decide ((portsL b l).length=0) && decide ((endsL b l).length=0)) by unfold idleB;rw [empty_len,empty_len])
 go_enter Tryz.func243,Tryz.ntmps243
 go_wp2_with fail
 refine (c_spec_l2Ports lo hi [.int .i64 b.roots,v1,v2,.int .i64 b.edges,v4,v5] b l _ hB hlen hlinks).mono ?_
 rintro e y ⟨u,rfl,hU,hb⟩
 obtain ⟨ua,uk,rfl,z1,z2,z3,z4⟩:=hU
 clear z4
 replace p0:=hb.keep p0
 replace p1:=hb.keep p1
 replace p2:=hb.keep p2
 replace p3:=hb.keep p3
 replace p4:=hb.keep p4
 replace p5:=hb.keep p5
 replace hB:=BigP.keeps _ _ _ _ _ _ (Same.ext hb) hB
 by_cases hp0:(portsL b l).length=0
 ·have ep:(((portsL b l).length:Int) == 0)=true:=beq_iff_eq.2 (by omega)
  have HP:=Lib.hid hp0
  clear hp0
  go_wp2_with fail
  refine (c_spec_l2Ends lo hi [.int .i64 b.roots,v1,v2,.int .i64 b.edges,v4,v5] b l _ hB hlen2).mono ?_
  rintro e y2 ⟨u2,rfl,hU2,hb2⟩
  obtain ⟨ua',uk',rfl,z1',z2',z3',z4'⟩:=hU2
  clear z4'
  go_wp2
  go_ret
  exact ⟨ret_bool (by rw [HI.out,decide_eq_true HP.out,Bool.true_and,Bool.eq_iff_iff];simp only [beq_iff_eq,decide_eq_true_eq];omega),xw⟩
 ·have ep:(((portsL b l).length:Int) == 0)=false:=beq_eq_false_iff_ne.2 (by omega)
  have HP:=Lib.hid hp0
  clear hp0
  go_wp2
  go_ret
  exact ⟨ret_bool (by rw [HI.out,decide_eq_false HP.out];rfl),xw⟩
end Go.Proofs.YtccjepndhlobpaaGreatDoor

/-
  Plain: redexes.
-/
namespace Go.Proofs.YtccjepndhlobpaaGreatDoor
open Go.RowKit
set_option linter.unusedVariables false
set_option linter.unusedSimpArgs false

def rootOk (b:Big) (r:Nat):Bool:=!(decide ((kidsL b (-1 - r)).length=0)) && decide ((holesL b (-1 - r)).length=0)
def nodeSolid (b:Big) (i:Nat):Bool:=decide ((holesL b i).length≤1)
def linkSolid (b:Big) (l:Nat):Bool:=!(idleB b l)
def placeOk (b:Big) (n:Nat):Bool:=if -b.roots+n<0 then rootOk b (-1 - (-b.roots+n)).toNat else nodeSolid b (-b.roots+n).toNat
def linksN (b:Big):Nat:=(b.edges+b.outer.length).toNat
/-- A valid bigraph is a redex. -/
def solidB (b:Big):Bool:=(decide (b.inner.length=0) && !(decide (b.roots=0))) && ((List.range b.roots.toNat).all (rootOk b) && ((List.range b.nodes.length).all (nodeSolid b) && (List.range (linksN b)).all (linkSolid b)))
/-- Sizes of a valid bigraph. -/
structure Dims (b:Big):Prop where
 roots:inR b.roots 0 4=true
 edges:inR b.edges 0 8=true
 nodes:b.nodes.length≤1000
 sites:b.sites.length≤1000
 outer:b.outer.length≤1000
 inner:b.inner.length≤1048576
 links:∀i (h:i<b.nodes.length),(b.nodes[i]).links.length≤1000
theorem all_range_iff (f:Nat→Bool) (n:Nat):(List.range n).all f=true↔∀i,i<n→f i=true:=by
 rw [List.all_eq_true];constructor
 ·intro h i hi;exact h i (List.mem_range.2 hi)
 ·intro h i hi;exact h i (List.mem_range.1 hi)
theorem placeOk_all (b:Big) (h:0≤b.roots):(List.range (b.roots.toNat+b.nodes.length)).all (placeOk b)=((List.range b.roots.toNat).all (rootOk b) && (List.range b.nodes.length).all (nodeSolid b)):=by
 rw [Bool.eq_iff_iff,Bool.and_eq_true,all_range_iff,all_range_iff,all_range_iff]
 constructor
 ·intro hh
  refine ⟨fun r hr=>?_,fun i hi=>?_⟩
  ·have:=hh (b.roots.toNat - 1 - r) (by omega)
   unfold placeOk at this
   rw [if_pos (by omega)] at this
   have e:(-1 - (-b.roots+((b.roots.toNat - 1 - r:Nat):Int))).toNat=r:=by omega
   rwa [e] at this
  ·have:=hh (b.roots.toNat+i) (by omega)
   unfold placeOk at this
   rw [if_neg (by omega)] at this
   have e:(-b.roots+((b.roots.toNat+i:Nat):Int)).toNat=i:=by omega
   rwa [e] at this
 ·rintro ⟨h1,h2⟩ n hn
  unfold placeOk
  split
  ·exact h1 _ (by omega)
  ·exact h2 _ (by omega)
theorem solidB_place {b:Big} (h:0≤b.roots) (n:Nat) (hn:n<b.roots.toNat+b.nodes.length) (hp:placeOk b n=false):solidB b=false:=by
 have:=placeOk_all b h
 rw [range_all_bad _ _ n hn hp] at this
 unfold solidB
 rw [← Bool.and_assoc ((List.range b.roots.toNat).all (rootOk b)),← this];simp
theorem solidB_link {b:Big} (n:Nat) (hn:n<linksN b) (hp:linkSolid b n=false):solidB b=false:=by
 unfold solidB;rw [range_all_bad _ _ n hn hp];simp
theorem solidB_root {b:Big} (n:Nat) (hn:n<b.roots.toNat) (hp:rootOk b n=false):solidB b=false:=by
 unfold solidB;rw [range_all_bad _ _ n hn hp];simp
theorem solidB_node {b:Big} (n:Nat) (hn:n<b.nodes.length) (hp:nodeSolid b n=false):solidB b=false:=by
 unfold solidB;rw [range_all_bad _ _ n hn hp];simp
theorem solidB_head {b:Big} (h:¬b.inner.length=0∨b.roots=0):solidB b=false:=by
 unfold solidB
 rcases h with h|h
 ·rw [decide_eq_false h];rfl
 ·rw [decide_eq_true h];simp
theorem solidB_yes {b:Big} (h1:b.inner.length=0) (h2:¬b.roots=0) (h3:(List.range b.roots.toNat).all (rootOk b)=true) (h4:(List.range b.nodes.length).all (nodeSolid b)=true) (h5:(List.range (linksN b)).all (linkSolid b)=true):solidB b=true:=by
 unfold solidB;rw [decide_eq_true h1,decide_eq_false h2,h3,h4,h5];rfl
theorem sig_ports {sig:List Ctl} (h:sigB sig=true) (k:Int) (h0:0≤k) (h1:k<sig.length):(sgAt sig k).ports≤3:=by
 obtain ⟨m,rfl⟩:=Int.eq_ofNat_of_zero_le h0
 rw [sgAt_nat sig m (by omega)]
 unfold sigB at h
 have h2:=(all_range_iff _ _).1 (Bool.and_eq_true_iff.1 h).2 m (by omega)
 rw [ctlOk_at sig m (by omega)] at h2
 have h3:=(Bool.and_eq_true_iff.1 h2).1
 unfold ctlB at h3
 simp only [Bool.and_eq_true] at h3
 have:=inR_le h3.2.1
 omega
theorem dims_of {sig:List Ctl} {b:Big} (h:bigB sig b=true):Dims b:=by
 obtain ⟨h1,h2,_,_⟩:=bigB_parts h
 obtain ⟨a,r,c,d,e,f,g⟩:=headB_parts h1
 refine ⟨r,e,by omega,by omega,by have:=namesB_len f;omega,by have:=namesB_len g;simp at this;omega,fun i hi=>?_⟩
 have h3:=(all_range_iff _ _).1 h2 i hi
 rw [nodeOk_at sig b i hi] at h3
 simp only [Bool.and_eq_true,decide_eq_true_eq] at h3
 have hc:=inR_le h3.1
 have:=sig_ports a _ hc.1 (by omega)
 omega
end Go.Proofs.YtccjepndhlobpaaGreatDoor

/-
  Walks: redexes.
-/
namespace Go.Proofs.YtccjepndhlobpaaGreatDoor
open Go.RowKit
set_option linter.unusedVariables false
set_option linter.unusedSimpArgs false
attribute [local irreducible] inR nameB strLt kidsL holesL portsL endsL idleB rootOk nodeSolid linkSolid placeOk
theorem rootOk_eq (b:Big) (r:Nat):rootOk b r=(!(decide ((kidsL b (-1 - r)).length=0)) && decide ((holesL b (-1 - r)).length=0)):=by unfold rootOk;rfl
theorem nodeSolid_eq (b:Big) (i:Nat):nodeSolid b i=decide ((holesL b i).length≤1):=by unfold nodeSolid;rfl
theorem linkSolid_eq (b:Big) (i:Nat):linkSolid b i = !(idleB b i):=by unfold linkSolid;rfl
theorem placeOk_neg (b:Big) (n:Nat) (p:Int) (hp:p = -b.roots+n) (h:p<0):placeOk b n=(!(decide ((kidsL b p).length=0)) && decide ((holesL b p).length=0)):=by
 subst hp
 have:placeOk b n=if -b.roots+n<0 then rootOk b (-1 - (-b.roots+n)).toNat else nodeSolid b (-b.roots+n).toNat:=by unfold placeOk;rfl
 rw [this,if_pos h,rootOk_eq,show (-1 - (((-1 - (-b.roots+(n:Int))).toNat:Nat):Int)) = -b.roots+n by omega]
theorem placeOk_pos (b:Big) (n:Nat) (p:Int) (hp:p = -b.roots+n) (h:¬p<0):placeOk b n=decide ((holesL b p).length≤1):=by
 subst hp
 have:placeOk b n=if -b.roots+n<0 then rootOk b (-1 - (-b.roots+n)).toNat else nodeSolid b (-b.roots+n).toNat:=by unfold placeOk;rfl
 rw [this,if_neg h,nodeSolid_eq,show (((-b.roots+(n:Int)).toNat:Nat):Int) = -b.roots+n by omega]
theorem kidsL_len (b:Big) (p:Int):(kidsL b p).length≤b.nodes.length:=by unfold kidsL;exact idxOf_len _ _
theorem holesL_len (b:Big) (p:Int):(holesL b p).length≤b.sites.length:=by unfold holesL;exact idxOf_len _ _
set_option maxRecDepth 100000 in
set_option maxHeartbeats 3200000 in
theorem c_impl_isRedex (lo hi:Nat) (cs:List Value) (b:Big) (w:World) (h:BigP lo hi w cs b) (D:Dims b) :
 Calls Tryz.prog 168 #[.agg cs.toArray] w fun e w'=>e=.returned (.bool (solidB b))∧Ext w w':=by
 have hB:=h
 obtain ⟨v1,v2,v4,v5,rfl,r1,r2,hN,hS,hO,hI⟩:=h
 obtain ⟨a1,k1,rfl,g1,g2,g3,_⟩:=hN
 obtain ⟨a4,k4,rfl,o1,o2,o3,_⟩:=hO
 obtain ⟨a5,k5,rfl,l1,l2,l3,_⟩:=hI
 unfold maxLen at g2 o2 l2
 have hrr:=inR_le D.roots
 have hee:=inR_le D.edges
 have hdn:=D.nodes
 have hds:=D.sites
 have hdo:=D.outer
 have hdi:=D.inner
 obtain ⟨W0,hW0,hbx,hx0,hz⟩:=box_facts w [.int .i64 b.roots,.slice a1 b.nodes.length k1,v2,.int .i64 b.edges,.slice a4 b.outer.length k4,.slice a5 b.inner.length k5] 44
 have p0:=(hbx 0 _ rfl).1
 have p1:=(hbx 1 _ rfl).1
 have p2:=(hbx 2 _ rfl).1
 have p3:=(hbx 3 _ rfl).1
 have p4:=(hbx 4 _ rfl).1
 have p5:=(hbx 5 _ rfl).1
 clear hz hbx
 replace hB:=BigP.keeps _ _ _ _ _ _ (Same.ext hx0) hB
 have HD:=Lib.hid D
 go_enter Tryz.func168,Tryz.ntmps168
 have Hr:=Lib.hid trivial
 by_cases hni:0<b.inner.length
 have eni:decide (0<b.inner.length)=true:=decide_eq_true hni
 have isF:=trivial
 rotate_left
 have eni:decide (0<b.inner.length)=false:=decide_eq_false hni
 by_cases hr:(b.roots)=(0)
 have er:((b.roots) == (0))=true:=beq_iff_eq.2 hr
 have Hr:=Lib.hid hr;clear hr
 have isF:=trivial
 rotate_left
 have er:((b.roots) == (0))=false:=beq_eq_false_iff_ne.2 hr
 have Hr:=Lib.hid hr;clear hr
 all_goals go_wp2_with fail
 all_goals first|(have:=isF;go_ret;exact ⟨ret_bool (solidB_head (by first|(left;omega)|(right;exact Hr.out))).symm,xw⟩)|skip
 have hin:b.inner.length=0:=by omega
 have HIN:=Lib.hid hin
 clear hin
 go_loopw [3] (fun c wr=>∃n:Nat,c=.int .i64 (-b.roots+n)∧n≤b.roots.toNat+b.nodes.length∧(List.range n).all (placeOk b)=true∧Ext W0 wr) (fun c _=>(b.nodes.length - intOf c).toNat)
 case atStart=>exact ⟨0,by simp,Nat.zero_le _,rfl,Ext.refl _⟩
 case round=>
  obtain ⟨n,rfl,hn0,hok,hx⟩:=hrel
  have HOK:=Lib.hid hok
  clear hok
  have hX:Ext w wr:=hx0.trans hx
  have q0:=hx.keep p0
  have q1:=hx.keep p1
  have q2:=hx.keep p2
  have q3:=hx.keep p3
  have q4:=hx.keep p4
  have q5:=hx.keep p5
  have hB':=BigP.keeps _ _ _ _ _ _ (Same.ext hx) hB
  generalize hpp : -b.roots+(n:Int)=p
  have HPP:=Lib.hid hpp
  by_cases hlt:p<b.nodes.length
  ·have hnlt:n<b.roots.toNat+b.nodes.length:=by omega
   have HS:=Lib.hid (range_all_succ (placeOk b) n)
   have HBD:=Lib.hid (solidB_place hrr.1 n hnlt)
   have HNG:=Lib.hid (placeOk_neg b n p hpp.symm)
   have HPS:=Lib.hid (placeOk_pos b n p hpp.symm)
   have hk1:=kidsL_len b p
   have hh1:=holesL_len b p
   have hpl : -4≤p:=by omega
   clear hpp
   go_wp2_with fail
   refine (c_impl_Bigraph_childrenOf lo hi [.int .i64 b.roots,.slice a1 b.nodes.length k1,v2,.int .i64 b.edges,.slice a4 b.outer.length k4,.slice a5 b.inner.length k5] b p _ hB' hdn hds).mono ?_
   rintro e y ⟨u,u',rfl,hU,hU',hb⟩
   obtain ⟨ua,uk,rfl,z1,z2,z3,z4⟩:=hU
   obtain ⟨ua',uk',rfl,z1',z2',z3',z4'⟩:=hU'
   clear z4 z4'
   replace q0:=hb.keep q0
   replace q1:=hb.keep q1
   have Hk:=Lib.hid trivial
   have hc:True:=trivial
   have hd:True:=trivial
   by_cases ha:p<0
   have ea:decide (p<0)=true:=decide_eq_true ha
   by_cases hk:(((kidsL b p).length:Int))=(0)
   have ek:((((kidsL b p).length:Int)) == (0))=true:=beq_iff_eq.2 hk
   have Hk:=Lib.hid hk;clear hk
   have HB:=Lib.hid (HBD.out (by first|(rw [HNG.out (by omega)];have:=Hk.out;first|(rw [decide_eq_true (by omega)];rfl)|(rw [decide_eq_false (by omega),decide_eq_false (by omega)];rfl))|(rw [HPS.out (by omega)];rw [decide_eq_false (by omega)])|(exfalso;omega)))
   have isF:=trivial
   rotate_left
   have ek:((((kidsL b p).length:Int)) == (0))=false:=beq_eq_false_iff_ne.2 hk
   have Hk:=Lib.hid hk;clear hk
   by_cases hc:0<(holesL b p).length
   have ec:decide (0<(holesL b p).length)=true:=decide_eq_true hc
   have HB:=Lib.hid (HBD.out (by first|(rw [HNG.out (by omega)];have:=Hk.out;first|(rw [decide_eq_true (by omega)];rfl)|(rw [decide_eq_false (by omega),decide_eq_false (by omega)];rfl))|(rw [HPS.out (by omega)];rw [decide_eq_false (by omega)])|(exfalso;omega)))
   have isF:=trivial
   rotate_left
   have ec:decide (0<(holesL b p).length)=false:=decide_eq_false hc
   by_cases hd:1<(holesL b p).length
   have ed:decide (1<(holesL b p).length)=true:=decide_eq_true hd
   have HB:=Lib.hid (HBD.out (by first|(rw [HNG.out (by omega)];have:=Hk.out;first|(rw [decide_eq_true (by omega)];rfl)|(rw [decide_eq_false (by omega),decide_eq_false (by omega)];rfl))|(rw [HPS.out (by omega)];rw [decide_eq_false (by omega)])|(exfalso;omega)))
   have isF:=trivial
   rotate_left
   have ed:decide (1<(holesL b p).length)=false:=decide_eq_false hd
   have HG:=Lib.hid (show placeOk b n=true by first|(rw [HNG.out (by omega)];have:=Hk.out;rw [decide_eq_false (by omega),decide_eq_true (by omega)];rfl)|(rw [HPS.out (by omega)];rw [decide_eq_true (by omega)]))
   have isP:=trivial
   rotate_left
   have ea:decide (p<0)=false:=decide_eq_false ha
   by_cases hd:1<(holesL b p).length
   have ed:decide (1<(holesL b p).length)=true:=decide_eq_true hd
   have HB:=Lib.hid (HBD.out (by first|(rw [HNG.out (by omega)];have:=Hk.out;first|(rw [decide_eq_true (by omega)];rfl)|(rw [decide_eq_false (by omega),decide_eq_false (by omega)];rfl))|(rw [HPS.out (by omega)];rw [decide_eq_false (by omega)])|(exfalso;omega)))
   have isF:=trivial
   rotate_left
   have ed:decide (1<(holesL b p).length)=false:=decide_eq_false hd
   have HG:=Lib.hid (show placeOk b n=true by first|(rw [HNG.out (by omega)];have:=Hk.out;rw [decide_eq_false (by omega),decide_eq_true (by omega)];rfl)|(rw [HPS.out (by omega)];rw [decide_eq_true (by omega)]))
   have isP:=trivial
   all_goals go_wp2_with fail
   all_goals first|(have:=isF;all_goals go_ret;all_goals exact ⟨ret_bool HB.out.symm,xw⟩)|(have:=isP;go_roundw;(case rel=>exact ⟨n+1,by have:=HPP.out;congr 1;omega,by omega,by rw [HS.out,HOK.out,HG.out];rfl,xw⟩);· simp only [intOf];omega)
  ·have hne:n=b.roots.toNat+b.nodes.length:=by omega
   subst hne
   have HAL:=Lib.hid (placeOk_all b hrr.1)
   have hln:((linksN b:Nat):Int)=b.edges+b.outer.length:=by unfold linksN;omega
   clear hpp
   go_wp2
   go_loopw [55] (fun c wi=>∃i:Nat,c=.int .i64 i∧i≤linksN b∧(List.range i).all (linkSolid b)=true∧Ext W0 wi) (fun c _=>linksN b - (intOf c).toNat)
   case atStart=>exact ⟨0,rfl,Nat.zero_le _,rfl,xw⟩
   case round=>
    obtain ⟨i,rfl,hi0,hok,hxi⟩:=hrel
    have HOK2:=Lib.hid hok
    clear hok
    have hXi:Ext w wr:=hx0.trans hxi
    have s0:=hxi.keep p0
    have s1:=hxi.keep p1
    have s2:=hxi.keep p2
    have s3:=hxi.keep p3
    have s4:=hxi.keep p4
    have s5:=hxi.keep p5
    have hB2:=BigP.keeps _ _ _ _ _ _ (Same.ext hxi) hB
    by_cases hil:i<linksN b
    ·have HS2:=Lib.hid (range_all_succ (linkSolid b) i)
     have HBL:=Lib.hid (solidB_link i hil)
     have HLS:=Lib.hid (linkSolid_eq b i)
     cases hid:idleB b i
     ·have HI:=Lib.hid hid
      clear hid
      go_wp2_with (go_at_call 215;refine (c_impl_Bigraph_isIdle lo hi [.int .i64 b.roots,.slice a1 b.nodes.length k1,v2,.int .i64 b.edges,.slice a4 b.outer.length k4,.slice a5 b.inner.length k5] b i _ hB2 hdn HD.out.links hdi).mono ?_;rintro e y ⟨rfl,hb⟩;rw [HI.out])
      go_roundw
      case rel=>exact ⟨i+1,rfl,by omega,by rw [HS2.out,HOK2.out,HLS.out,HI.out];rfl,xw⟩
      ·simp only [intOf];omega
     ·have HI:=Lib.hid hid
      clear hid
      go_wp2_with (go_at_call 215;refine (c_impl_Bigraph_isIdle lo hi [.int .i64 b.roots,.slice a1 b.nodes.length k1,v2,.int .i64 b.edges,.slice a4 b.outer.length k4,.slice a5 b.inner.length k5] b i _ hB2 hdn HD.out.links hdi).mono ?_;rintro e y ⟨rfl,hb⟩;rw [HI.out])
      go_ret
      exact ⟨ret_bool (HBL.out (by rw [HLS.out,HI.out];rfl)).symm,xw⟩
    ·have hie:i=linksN b:=by omega
     subst hie
     go_wp2
     go_ret
     exact ⟨ret_bool (by have h1:=HAL.out;rw [HOK.out] at h1;have h2:=Bool.and_eq_true_iff.1 h1.symm;exact (solidB_yes HIN.out Hr.out h2.1 h2.2 HOK2.out).symm),xw⟩
end Go.Proofs.YtccjepndhlobpaaGreatDoor
