/-
  Proved facts that the law leans on.
-/
import Derived.Test.YtacafmejcdgboaaGreatDoorZR2
import Derived.Test.YtacafmejcdgboaaGreatDoorZR3
import Derived.Laws.CopyRow
import Derived.Laws.CopyOwn
import Derived.Laws.OwnMore
import Derived.Laws.Tables
import Derived.Deep.RegionWith
import Derived.Deep.DrawnRows
import Derived.Deep.RegionHeld3
import Derived.Deep.DeepMust
import Derived.Deep.Cut
namespace Go.Proofs.YtacafmejcdgboaaGreatDoor
open Go.RowKit
set_option linter.unusedVariables false
set_option linter.unusedSimpArgs false
theorem jC {n:Nat} (h:n≤100000000):I64 (n:Int):=by unfold I64;omega
theorem A5 {v v':Value} {g H:Nat} (h:v'.ownBlock=v.ownBlock∨v'.ownBlock=some H) (h1:v.ownBlock≠some g) (h2:g<H):v'.ownBlock≠some g:=by
 rcases h with h|h
 ·rw [h];exact h1
 ·rw [h];intro e;cases e;omega
attribute [local irreducible] inR di cT
set_option maxRecDepth 100000 in
set_option maxHeartbeats 1600000 in
theorem pM (lo hi:Nat) (cs:List Value) (b:Big) (p:Int) (w:World) (h:dw lo hi w cs b) (hlen:b.nodes.length≤1048576) :
 Calls Tryz.prog 202 #[.agg cs.toArray,.int .i64 p] w fun e w'=>∃v,e=.returned v∧SlV 1 cH w.heap.size w'.heap.size w' v (eI b p)∧Ext w w':=by
 obtain ⟨v1,v2,v4,v5,rfl,r1,r2,hN,hS,hO,hI⟩:=h
 obtain ⟨aan,kn,rfl,n1,n2,n3,n4⟩:=hN
 unfold maxLen at n2
 obtain ⟨W0,hW0,hbx,hx0,hz⟩:=bH w [.int .i64 b.roots,.slice aan b.nodes.length kn,v2,.int .i64 b.edges,v4,v5] 46
 have pn:=(hbx 1 _ rfl).1
 have hzz:w.heap.size<W0.heap.size:=by omega
 clear hz hbx
 obtain ⟨i0,hi0,hz0,hz1,hz2⟩:=info_parts qg
 have hrow0:fP 1 cH 3 W0.heap.size (W0.alloc (.cells #[] 3)) (.slice (some ⟨W0.heap.size,0,none⟩) 0 0) []:=fP.made (Nat.le_refl _)
 go_enter Tryz.func202,Tryz.ntmps202
 go_wp2
 go_loopw [5,6] (fun v c wr=>∃i:Nat,c=.int .i64 i∧i≤b.nodes.length∧fP 1 cH 3 W0.heap.size wr v (idxOf (oA b p) i)∧Ext W0 wr) (fun _ c _=>b.nodes.length - (intOf c).toNat)
 case atStart=>exact ⟨0,rfl,Nat.zero_le _,hrow0,xw⟩
 case round=>
  obtain ⟨i,rfl,hi',hrow,hx⟩:=hrel
  replace pn:=hx.keep pn
  have hX:Ext w wr:=xw
  by_cases hlt:i<b.nodes.length
  ·have HF:=Lib.hid (zO b p i hlt)
   rcases n4 with n4|⟨bn,on,rfl,nb1,nb2,n4⟩
   ·rw [n4] at hlt;simp at hlt
   obtain ⟨cs,hl,⟨nv,rfl,e1,e2,e3⟩,hc⟩:=n4 i hlt
   have q0:=hX.keep (hc 0 _ rfl)
   have q1:=hX.keep (hc 1 _ rfl)
   rw [Nat.add_zero] at q0
   clear hc n4
   have hsz:=Below.size hx
   have hL:=dx (oA b p) i
   by_cases hp:(b.nodes[i]).parent=p
   ·have ep:((b.nodes[i]).parent == p)=true:=beq_iff_eq.2 hp
    have HT:=Lib.hid (cP (f:=oA b p) (n:=i) (by rw [HF.out];simpa using hp))
    clear hp
    go_wp2_with (at_builtin;refine bN cH.keeps rfl (.tmp 23) (.tmp 25) 25 rfl (W0.heap.size) 3 i0 _ 8 Tryz.underlying25 hi0 hz0 hz1 hz2 rfl (by decide) _ _ (by rfl) (hrow.ext cH.keeps xw) ⟨wr.heap.size,0,none⟩ 1 [.int .i64 i] rfl rfl (ig (by simp)) (by simp [Value.oneCell']) (W0.heap.size) (W0.heap.size) (Nat.le_refl _) (by first|omega|(simp;omega)) (fun g hg=>.inr (hrow.block g hg).1) ((i:Int)) ⟨rfl,jC (by omega)⟩ (by first|omega|(simp;omega)) (by decide) (by first|omega|(simp;omega)) ?_;intro v3 w3 row3 ext3 gro3 own3)
    have hx3:=ext3 W0 xw (Nat.le_refl _)
    go_roundw
    case rel=>exact ⟨i+1,rfl,by omega,by rw [HT.out];exact row3,xw⟩
    ·simp only [intOf];omega
   ·have ep:((b.nodes[i]).parent == p)=false:=beq_eq_false_iff_ne.2 hp
    have HT:=Lib.hid (dK (f:=oA b p) (n:=i) (by rw [HF.out];simpa using hp))
    clear hp
    go_wp2
    go_roundw
    case rel=>exact ⟨i+1,rfl,by omega,by rw [HT.out];exact hrow,xw⟩
    ·simp only [intOf];omega
  ·have e:i=b.nodes.length:=by omega
   subst e
   go_wp2
   go_ret
   exact ⟨_,rfl,hrow.toSlV cH.widens (by omega),hX⟩
set_option maxRecDepth 100000 in
set_option maxHeartbeats 1600000 in
theorem oJ (lo hi:Nat) (cs:List Value) (b:Big) (p:Int) (w:World) (h:dw lo hi w cs b) (hlen:b.sites.length≤1048576) :
 Calls Tryz.prog 203 #[.agg cs.toArray,.int .i64 p] w fun e w'=>∃v,e=.returned v∧SlV 1 cH w.heap.size w'.heap.size w' v (bq b p)∧Ext w w':=by
 obtain ⟨v1,v2,v4,v5,rfl,r1,r2,hN,hS,hO,hI⟩:=h
 obtain ⟨aas,ks,rfl,s1,s2,s3,s4⟩:=hS
 unfold maxLen at s2
 obtain ⟨W0,hW0,hbx,hx0,hz⟩:=bH w [.int .i64 b.roots,v1,.slice aas b.sites.length ks,.int .i64 b.edges,v4,v5] 46
 have ps:=(hbx 2 _ rfl).1
 have hzz:w.heap.size<W0.heap.size:=by omega
 clear hz hbx
 obtain ⟨i0,hi0,hz0,hz1,hz2⟩:=info_parts qg
 have hrow0:fP 1 cH 3 W0.heap.size (W0.alloc (.cells #[] 3)) (.slice (some ⟨W0.heap.size,0,none⟩) 0 0) []:=fP.made (Nat.le_refl _)
 go_enter Tryz.func203,Tryz.ntmps203
 go_wp2
 go_loopw [5,6] (fun v c wr=>∃i:Nat,c=.int .i64 i∧i≤b.sites.length∧fP 1 cH 3 W0.heap.size wr v (idxOf (gY b p) i)∧Ext W0 wr) (fun _ c _=>b.sites.length - (intOf c).toNat)
 case atStart=>exact ⟨0,rfl,Nat.zero_le _,hrow0,xw⟩
 case round=>
  obtain ⟨i,rfl,hi',hrow,hx⟩:=hrel
  replace ps:=hx.keep ps
  have hX:Ext w wr:=xw
  by_cases hlt:i<b.sites.length
  ·have HF:=Lib.hid (vp b p i hlt)
   rcases s4 with s4|⟨bs,os,rfl,sb1,sb2,s4⟩
   ·rw [s4] at hlt;simp at hlt
   obtain ⟨cs,hl,⟨rfl,e1⟩,hc⟩:=s4 i hlt
   have q0:=hX.keep (hc 0 _ rfl)
   rw [Nat.mul_one,Nat.add_zero] at q0
   clear hc s4
   have hsz:=Below.size hx
   have hL:=dx (gY b p) i
   by_cases hp:b.sites[i]=p
   ·have ep:(b.sites[i] == p)=true:=beq_iff_eq.2 hp
    have HT:=Lib.hid (cP (f:=gY b p) (n:=i) (by rw [HF.out];simpa using hp))
    clear hp
    go_wp2_with (at_builtin;refine bN cH.keeps rfl (.tmp 22) (.tmp 24) 25 rfl (W0.heap.size) 3 i0 _ 8 Tryz.underlying25 hi0 hz0 hz1 hz2 rfl (by decide) _ _ (by rfl) (hrow.ext cH.keeps xw) ⟨wr.heap.size,0,none⟩ 1 [.int .i64 i] rfl rfl (ig (by simp)) (by simp [Value.oneCell']) (W0.heap.size) (W0.heap.size) (Nat.le_refl _) (by first|omega|(simp;omega)) (fun g hg=>.inr (hrow.block g hg).1) ((i:Int)) ⟨rfl,jC (by omega)⟩ (by first|omega|(simp;omega)) (by decide) (by first|omega|(simp;omega)) ?_;intro v3 w3 row3 ext3 gro3 own3)
    have hx3:=ext3 W0 xw (Nat.le_refl _)
    go_roundw
    case rel=>exact ⟨i+1,rfl,by omega,by rw [HT.out];exact row3,xw⟩
    ·simp only [intOf];omega
   ·have ep:(b.sites[i] == p)=false:=beq_eq_false_iff_ne.2 hp
    have HT:=Lib.hid (dK (f:=gY b p) (n:=i) (by rw [HF.out];simpa using hp))
    clear hp
    go_wp2
    go_roundw
    case rel=>exact ⟨i+1,rfl,by omega,by rw [HT.out];exact hrow,xw⟩
    ·simp only [intOf];omega
  ·have e:i=b.sites.length:=by omega
   subst e
   go_wp2
   go_ret
   exact ⟨_,rfl,hrow.toSlV cH.widens (by omega),hX⟩
end Go.Proofs.YtacafmejcdgboaaGreatDoor
namespace Go.Proofs.YtacafmejcdgboaaGreatDoor
open Go.RowKit
set_option linter.unusedVariables false
set_option linter.unusedSimpArgs false
theorem CL:∃i,Tryz.prog.info? 261=some i∧i.zero=some (.agg #[.int .i64 0,.int .i64 0])∧i.size=2∧i.bytes=16:=info_parts Cq
theorem gP (b:Big) (l:Int):∀(n:Nat),n≤b.nodes.length→(∀i (h:i<b.nodes.length),(b.nodes[i]).links.length≤1000)→(cL b l n).length≤n * 1000:=by
 intro n
 induction n with
 | zero=>intro _ _;simp [cL]
 | succ n ih=>
  intro hn hl
  rw [eP b l n (by omega),List.length_append]
  have h1:=ih (by omega) hl
  have h2:=kI (b.nodes[n]).links l n (b.nodes[n]).links.length
  have h3:=hl n (by omega)
  omega
theorem jZ {v v' u:Value} {H:Nat} (own:v'.ownBlock=v.ownBlock∨v'.ownBlock=some H) (hne:∀g,u.ownBlock=some g→v.ownBlock≠some g) (hlt:∀g,u.ownBlock=some g→g<H):∀g,u.ownBlock=some g→v'.ownBlock≠some g:=
 fun g hg=>A5 own (hne g hg) (hlt g hg)
theorem ph {v u:Value} (h:∀g,u.ownBlock=some g→v.ownBlock≠some g):∀g,v.ownBlock=some g→u.ownBlock≠some g:=fun g hg hu=>h g hu hg
theorem qS {α:Type} (l:List α):l.isEmpty=decide (l.length=0):=by cases l <;> simp
attribute [local irreducible] inR di cT
set_option maxRecDepth 100000 in
set_option maxHeartbeats 3200000 in
theorem oH (lo hi:Nat) (cs:List Value) (b:Big) (l:Int) (w:World) (h:dw lo hi w cs b) (hlen:b.nodes.length≤1000) (hlinks:∀i (h:i<b.nodes.length),(b.nodes[i]).links.length≤1000) :
 Calls Tryz.prog 253 #[.agg cs.toArray,.int .i64 l] w fun e w'=>∃v,e=.returned v∧SlV 2 dP w.heap.size w'.heap.size w' v (aE b l)∧Ext w w':=by
 obtain ⟨v1,v2,v4,v5,rfl,r1,r2,hN,hS,hO,hI⟩:=h
 obtain ⟨aan,kn,rfl,n1,n2,n3,n4⟩:=hN
 unfold maxLen at n2
 obtain ⟨W0,hW0,hbx,hx0,hz⟩:=bH w [.int .i64 b.roots,.slice aan b.nodes.length kn,v2,.int .i64 b.edges,v4,v5] 46
 have pn:=(hbx 1 _ rfl).1
 have hzz:w.heap.size<W0.heap.size:=by omega
 clear hz hbx
 obtain ⟨i0,hi0,hz0,hz1,hz2⟩:=CL
 have hrow0:fP 2 dP 261 W0.heap.size (W0.alloc (.cells #[] 261)) (.slice (some ⟨W0.heap.size,0,none⟩) 0 0) []:=fP.made (Nat.le_refl _)
 go_enter Tryz.func253,Tryz.ntmps253
 go_wp2
 go_loopw [5,6,7] (fun v c _ wr=>∃i:Nat,c=.int .i64 i∧i≤b.nodes.length∧fP 2 dP 261 W0.heap.size wr v (cL b l i)∧Ext W0 wr) (fun _ c _ _=>b.nodes.length - (intOf c).toNat)
 case atStart=>exact ⟨0,rfl,Nat.zero_le _,hrow0,xw⟩
 case round=>
  obtain ⟨i,rfl,hi',hrow,hx⟩:=hrel
  have pn1:=hx.keep pn
  have hX:Ext w wr:=hx0.trans hx
  by_cases hlt:i<b.nodes.length
  ·have HPS:=Lib.hid (eP b l i hlt)
   have hll:=hlinks i hlt
   have hpl:=gP b l i hi' hlinks
   rcases n4 with n4|⟨bn,on,rfl,nb1,nb2,n4⟩
   ·rw [n4] at hlt;simp at hlt
   obtain ⟨cs,hl,hnp,hc⟩:=n4 i hlt
   generalize b.nodes[i]=nd at hnp HPS hll
   obtain ⟨nc,np,nl⟩:=nd
   obtain ⟨nv,rfl,e1,e2,e3⟩:=hnp
   have q2w:=hc 2 _ rfl
   have q2:=hX.keep q2w
   obtain ⟨la,lk,rfl,y1,y2,y3,y4⟩:=e3
   dsimp only at *
   unfold maxLen at y2
   clear hc n4
   go_wp2
   go_loopw [5,7] (fun v c wi=>∃k:Nat,c=.int .i64 k∧k≤nl.length∧fP 2 dP 261 W0.heap.size wi v (cL b l i++cu nl l i k)∧Ext W0 wi) (fun _ c _=>nl.length - (intOf c).toNat)
   case atStart=>exact ⟨0,rfl,Nat.zero_le _,by simpa [cu] using hrow,hx⟩
   case round=>
    obtain ⟨k,rfl,hk',hrowi,hxi⟩:=hrel
    have pn2:=hxi.keep pn
    have hXi:Ext w wr:=hx0.trans hxi
    have q3:=hXi.keep q2w
    by_cases hkl:k<nl.length
    ·have HY:=Lib.hid (iL (l:=l) (i:=i) hkl)
     have HN:=Lib.hid (jY (l:=l) (i:=i) hkl)
     rcases y4 with y4|⟨b3,o3,rfl,yb1,yb2,y4⟩
     ·rw [y4] at hkl;simp at hkl
     obtain ⟨es,el,⟨rfl,f1⟩,hes⟩:=y4 k hkl
     have t0:=hXi.keep (hes 0 _ rfl)
     rw [Nat.mul_one,Nat.add_zero] at t0
     clear hes y4
     have hsz:=Below.size hxi
     have hL:=kI nl l i k
     have hLL:(cL b l i++cu nl l i k).length=(cL b l i).length+(cu nl l i k).length:=List.length_append
     have hL2:(cL b l i++cu nl l i k).length≤2000000:=by omega
     clear hLL
     by_cases hp:nl[k]=l
     ·have ep:(nl[k] == l)=true:=beq_iff_eq.2 hp
      have HT:=Lib.hid (HY.out hp)
      clear hp
      go_wp2_with (at_builtin;refine bN dP.keeps rfl (.tmp 38) (.tmp 42) 243 rfl (W0.heap.size) 261 i0 _ 16 Tryz.underlying243 hi0 hz0 hz1 hz2 rfl (by decide) _ _ (by rfl) (hrowi.ext dP.keeps xw) ⟨wr.heap.size,0,none⟩ 1 [.int .i64 i,.int .i64 k] rfl rfl (ig (by simp)) (by simp [Value.oneCell']) (W0.heap.size) (W0.heap.size) (Nat.le_refl _) (by first|omega|(simp;omega)) (fun g hg=>.inr (hrowi.block g hg).1) (((i:Int),(k:Int))) ⟨rfl,jC (by omega),jC (by omega)⟩ (by first|omega|(simp;omega)) (by decide) (by first|omega|(simp;omega)) ?_;intro v3 w3 row3 ext3 gro3 own3)
      have hx3:=ext3 W0 xw (Nat.le_refl _)
      go_roundw
      case rel=>exact ⟨k+1,rfl,by omega,by rw [HT.out,← List.append_assoc];exact row3,xw⟩
      ·simp only [intOf];omega
     ·have ep:(nl[k] == l)=false:=beq_eq_false_iff_ne.2 hp
      have HT:=Lib.hid (HN.out hp)
      clear hp
      go_wp2
      go_roundw
      case rel=>exact ⟨k+1,rfl,by omega,by rw [HT.out];exact hrowi,xw⟩
      ·simp only [intOf];omega
    ·have e:k=nl.length:=by omega
     subst e
     go_wp2
     go_roundw
     case rel=>exact ⟨i+1,rfl,by omega,by rw [HPS.out];exact hrowi,xw⟩
     ·simp only [intOf];omega
  ·have e:i=b.nodes.length:=by omega
   subst e
   go_wp2
   go_ret
   exact ⟨_,rfl,hrow.toSlV dP.widens (by omega),hX⟩
set_option maxRecDepth 100000 in
set_option maxHeartbeats 3200000 in
theorem iq (lo hi:Nat) (cs:List Value) (b:Big) (p:Int) (w:World) (h:dw lo hi w cs b) (hlen:b.nodes.length≤1000) (hlen2:b.sites.length≤1000) :
 Calls Tryz.prog 191 #[.agg cs.toArray,.int .i64 p] w fun e w'=>∃v v',e=.returned (.tuple #[v,v'])∧SlV 1 cH w.heap.size w'.heap.size w' v (eI b p)∧SlV 1 cH w.heap.size w'.heap.size w' v' (bq b p)∧Ext w w':=by
 obtain ⟨v1,v2,v4,v5,rfl,r1,r2,hN,hS,hO,hI⟩:=h
 obtain ⟨aan,kn,rfl,n1,n2,n3,n4⟩:=hN
 obtain ⟨aas,ks,rfl,s1,s2,s3,s4⟩:=hS
 unfold maxLen at n2 s2
 obtain ⟨W0,hW0,hbx,hx0,hz⟩:=bH w [.int .i64 b.roots,.slice aan b.nodes.length kn,.slice aas b.sites.length ks,.int .i64 b.edges,v4,v5] 46
 have pn:=(hbx 1 _ rfl).1
 have ps:=(hbx 2 _ rfl).1
 have hzz:w.heap.size<W0.heap.size:=by omega
 clear hz hbx
 obtain ⟨i0,hi0,hz0,hz1,hz2⟩:=info_parts qg
 have hrowa:fP 1 cH 3 W0.heap.size ((W0.alloc (.cells #[] 3)).alloc (.cells #[] 3)) (.slice (some ⟨W0.heap.size,0,none⟩) 0 0) []:=(fP.made (Nat.le_refl _)).ext cH.keeps xw
 have hrowb:fP 1 cH 3 W0.heap.size ((W0.alloc (.cells #[] 3)).alloc (.cells #[] 3)) (.slice (some ⟨W0.heap.size+1,0,none⟩) 0 0) []:=by
  have:=fP.made (size:=1) (P:=cH) (e:=3) (base:=W0.heap.size) (w:=W0.alloc (.cells #[] 3)) (by simp)
  simpa using this
 have hab:∀g,(Value.slice (some ⟨W0.heap.size+1,0,none⟩) 0 0).ownBlock=some g→(Value.slice (some ⟨W0.heap.size,0,none⟩) 0 0).ownBlock≠some g:=by
  intro g hg hh;simp [Value.ownBlock] at hg hh;omega
 go_enter Tryz.func191,Tryz.ntmps191
 go_wp2
 go_loopw [17,6] (fun c v wr=>∃i:Nat,c=.int .i64 i∧i≤b.nodes.length∧fP 1 cH 3 W0.heap.size wr v (idxOf (oA b p) i)∧fP 1 cH 3 W0.heap.size wr (.slice (some ⟨W0.heap.size+1,0,none⟩) 0 0) []∧(∀g,(Value.slice (some ⟨W0.heap.size+1,0,none⟩) 0 0).ownBlock=some g→v.ownBlock≠some g)∧Ext W0 wr) (fun c _ _=>b.nodes.length - (intOf c).toNat)
 case atStart=>exact ⟨0,rfl,Nat.zero_le _,hrowa,hrowb,hab,xw⟩
 case round=>
  obtain ⟨i,rfl,hi',hrow,hrow2,hne,hx⟩:=hrel
  have HNE:=Lib.hid hne
  clear hne
  have pn1:=hx.keep pn
  have ps1:=hx.keep ps
  have hX:Ext w wr:=hx0.trans hx
  by_cases hlt:i<b.nodes.length
  ·have HF:=Lib.hid (zO b p i hlt)
   rcases n4 with n4|⟨bn,on,rfl,nb1,nb2,n4⟩
   ·rw [n4] at hlt;simp at hlt
   obtain ⟨cs,hl,⟨nv,rfl,e1,e2,⟨la,lk,rfl,y1,y2,y3,y4⟩⟩,hc⟩:=n4 i hlt
   have q0:=hX.keep (hc 0 _ rfl)
   have q1:=hX.keep (hc 1 _ rfl)
   have q2:=hX.keep (hc 2 _ rfl)
   rw [Nat.add_zero] at q0
   clear hc n4
   have hsz:=Below.size hx
   have hL:=dx (oA b p) i
   by_cases hp:(b.nodes[i]).parent=p
   ·have ep:((b.nodes[i]).parent == p)=true:=beq_iff_eq.2 hp
    have HT:=Lib.hid (cP (f:=oA b p) (n:=i) (by rw [HF.out];simpa using hp))
    clear hp
    go_wp2_with (at_builtin;refine bN cH.keeps rfl (.tmp 26) (.tmp 28) 25 rfl (W0.heap.size) 3 i0 _ 8 Tryz.underlying25 hi0 hz0 hz1 hz2 rfl (by decide) _ _ (by rfl) (hrow.ext cH.keeps xw) ⟨wr.heap.size+1,0,none⟩ 1 [.int .i64 i] rfl rfl (ig (by simp)) (by simp [Value.oneCell']) (W0.heap.size) (W0.heap.size) (Nat.le_refl _) (by first|omega|(simp;omega)) (fun g hg=>.inr (hrow.block g hg).1) ((i:Int)) ⟨rfl,jC (by omega)⟩ (by first|omega|(simp;omega)) (by decide) (by first|omega|(simp;omega)) ?_;intro v3 w3 row3 ext3 gro3 own3)
    have hx3:=ext3 W0 xw (Nat.le_refl _)
    have row4:=(hrow2.ext cH.keeps xw).kept cH.flat gro3 HNE.out
    have hne3:=jZ own3 HNE.out (fun g hg=>by have:=hrow2.block g hg;simp;omega)
    go_roundw
    case rel=>exact ⟨i+1,rfl,by omega,by rw [HT.out];exact row3,row4,hne3,hx3⟩
    ·simp only [intOf];omega
   ·have ep:((b.nodes[i]).parent == p)=false:=beq_eq_false_iff_ne.2 hp
    have HT:=Lib.hid (dK (f:=oA b p) (n:=i) (by rw [HF.out];simpa using hp))
    clear hp
    go_wp2
    go_roundw
    case rel=>exact ⟨i+1,rfl,by omega,by rw [HT.out];exact hrow.ext cH.keeps xw,hrow2.ext cH.keeps xw,HNE.out,xw⟩
    ·simp only [intOf];omega
  ·have e:i=b.nodes.length:=by omega
   subst e
   clear hab hrowa hrowb
   have hrk:=hrow
   go_wp2
   go_loopw [34,7] (fun c u wr=>∃i:Nat,c=.int .i64 i∧i≤b.sites.length∧fP 1 cH 3 W0.heap.size wr u (idxOf (gY b p) i)∧fP 1 cH 3 W0.heap.size wr u6 (eI b p)∧(∀g,u6.ownBlock=some g→u.ownBlock≠some g)∧Ext W0 wr) (fun c _ _=>b.sites.length - (intOf c).toNat)
   case atStart=>exact ⟨0,rfl,Nat.zero_le _,hrow2,hrow,ph HNE.out,hx⟩
   case round=>
    obtain ⟨i,rfl,hi',hrow7,hrow6,hne,hx⟩:=hrel
    have HNE:=Lib.hid hne
    clear hne
    have ps1:=hx.keep ps
    have hX:Ext w wr:=hx0.trans hx
    by_cases hlt:i<b.sites.length
    ·have HF:=Lib.hid (vp b p i hlt)
     rcases s4 with s4|⟨bs,os,rfl,sb1,sb2,s4⟩
     ·rw [s4] at hlt;simp at hlt
     obtain ⟨cs,hl,⟨rfl,e1⟩,hc⟩:=s4 i hlt
     have q0:=hX.keep (hc 0 _ rfl)
     rw [Nat.mul_one,Nat.add_zero] at q0
     clear hc s4
     have hsz:=Below.size hx
     have hL:=dx (gY b p) i
     by_cases hp:b.sites[i]=p
     ·have ep:(b.sites[i] == p)=true:=beq_iff_eq.2 hp
      have HT:=Lib.hid (cP (f:=gY b p) (n:=i) (by rw [HF.out];simpa using hp))
      clear hp
      go_wp2_with (at_builtin;refine bN cH.keeps rfl (.tmp 42) (.tmp 44) 25 rfl (W0.heap.size) 3 i0 _ 8 Tryz.underlying25 hi0 hz0 hz1 hz2 rfl (by decide) _ _ (by rfl) (hrow7.ext cH.keeps xw) ⟨wr.heap.size,0,none⟩ 1 [.int .i64 i] rfl rfl (ig (by simp)) (by simp [Value.oneCell']) (W0.heap.size) (W0.heap.size) (Nat.le_refl _) (by first|omega|(simp;omega)) (fun g hg=>.inr (hrow7.block g hg).1) ((i:Int)) ⟨rfl,jC (by omega)⟩ (by first|omega|(simp;omega)) (by decide) (by first|omega|(simp;omega)) ?_;intro v3 w3 row3 ext3 gro3 own3)
      have hx3:=ext3 W0 xw (Nat.le_refl _)
      have row4:=(hrow6.ext cH.keeps xw).kept cH.flat gro3 HNE.out
      have hne3:=jZ own3 HNE.out (fun g hg=>by have:=hrow6.block g hg;simp;omega)
      go_roundw
      case rel=>exact ⟨i+1,rfl,by omega,by rw [HT.out];exact row3,row4,hne3,hx3⟩
      ·simp only [intOf];omega
     ·have ep:(b.sites[i] == p)=false:=beq_eq_false_iff_ne.2 hp
      have HT:=Lib.hid (dK (f:=gY b p) (n:=i) (by rw [HF.out];simpa using hp))
      clear hp
      go_wp2
      go_roundw
      case rel=>exact ⟨i+1,rfl,by omega,by rw [HT.out];exact hrow7,hrow6,HNE.out,xw⟩
      ·simp only [intOf];omega
    ·have e:i=b.sites.length:=by omega
     subst e
     go_wp2
     go_ret2
     exact ⟨_,_,rfl,hrow6.toSlV cH.widens (by omega),hrow7.toSlV cH.widens (by omega),hX⟩
set_option maxRecDepth 100000 in
set_option maxHeartbeats 3200000 in
theorem i7 (lo hi:Nat) (cs:List Value) (b:Big) (l:Int) (w:World) (h:dw lo hi w cs b) (hlen:b.nodes.length≤1000) (hlinks:∀i (h:i<b.nodes.length),(b.nodes[i]).links.length≤1000) (hlen2:b.inner.length≤1048576) :
 Calls Tryz.prog 225 #[.agg cs.toArray,.int .i64 l] w fun e w'=>∃v v',e=.returned (.tuple #[v,v'])∧SlV 2 dP w.heap.size w'.heap.size w' v (aE b l)∧SlV 1 dV w.heap.size w'.heap.size w' v' (iP b l)∧Ext w w':=by
 obtain ⟨v1,v2,v4,v5,rfl,r1,r2,hN,hS,hO,hI⟩:=h
 obtain ⟨aan,kn,rfl,n1,n2,n3,n4⟩:=hN
 obtain ⟨aai,ki,rfl,i1,i2,i3,i4⟩:=hI
 unfold maxLen at n2 i2
 obtain ⟨W0,hW0,hbx,hx0,hz⟩:=bH w [.int .i64 b.roots,.slice aan b.nodes.length kn,v2,.int .i64 b.edges,v4,.slice aai b.inner.length ki] 46
 have pn:=(hbx 1 _ rfl).1
 have pi:=(hbx 5 _ rfl).1
 have hzz:w.heap.size<W0.heap.size:=by omega
 clear hz hbx
 obtain ⟨i0,hi0,hz0,hz1,hz2⟩:=CL
 obtain ⟨j0,hj0,hy0,hy1,hy2⟩:=info_parts tT
 have hrowa:fP 2 dP 261 W0.heap.size ((W0.alloc (.cells #[] 261)).alloc (.cells #[] 9)) (.slice (some ⟨W0.heap.size,0,none⟩) 0 0) []:=(fP.made (Nat.le_refl _)).ext dP.keeps xw
 have hrowb:fP 1 dV 9 W0.heap.size ((W0.alloc (.cells #[] 261)).alloc (.cells #[] 9)) (.slice (some ⟨W0.heap.size+1,0,none⟩) 0 0) []:=by
  have:=fP.made (size:=1) (P:=dV) (e:=9) (base:=W0.heap.size) (w:=W0.alloc (.cells #[] 261)) (by simp)
  simpa using this
 have hab:∀g,(Value.slice (some ⟨W0.heap.size+1,0,none⟩) 0 0).ownBlock=some g→(Value.slice (some ⟨W0.heap.size,0,none⟩) 0 0).ownBlock≠some g:=by
  intro g hg hh;simp [Value.ownBlock] at hg hh;omega
 go_enter Tryz.func225,Tryz.ntmps225
 go_wp2
 go_loopw [19,6] (fun c v wr=>∃i:Nat,c=.int .i64 i∧i≤b.nodes.length∧fP 2 dP 261 W0.heap.size wr v (cL b l i)∧fP 1 dV 9 W0.heap.size wr (Value.slice (some ⟨W0.heap.size+1,0,none⟩) 0 0) []∧(∀g,(Value.slice (some ⟨W0.heap.size+1,0,none⟩) 0 0).ownBlock=some g→v.ownBlock≠some g)∧Ext W0 wr) (fun c _ _=>b.nodes.length - (intOf c).toNat)
 case atStart=>exact ⟨0,rfl,Nat.zero_le _,hrowa,hrowb,hab,xw⟩
 case round=>
  obtain ⟨i,rfl,hi',hrow,hrow2,hne,hx⟩:=hrel
  have HNE:=Lib.hid hne
  clear hne
  have pn1:=hx.keep pn
  have pi1:=hx.keep pi
  have hX:Ext w wr:=hx0.trans hx
  by_cases hlt:i<b.nodes.length
  ·have HPS:=Lib.hid (eP b l i hlt)
   have hll:=hlinks i hlt
   have hpl:=gP b l i hi' hlinks
   rcases n4 with n4|⟨bn,on,rfl,nb1,nb2,n4⟩
   ·rw [n4] at hlt;simp at hlt
   obtain ⟨cs,hl,hnp,hc⟩:=n4 i hlt
   generalize b.nodes[i]=nd at hnp HPS hll
   obtain ⟨nc,np,nl⟩:=nd
   obtain ⟨nv,rfl,e1,e2,e3⟩:=hnp
   have q0:=hX.keep (hc 0 _ rfl)
   have q1:=hX.keep (hc 1 _ rfl)
   have q2:=hX.keep (hc 2 _ rfl)
   rw [Nat.add_zero] at q0
   obtain ⟨la,lk,rfl,y1,y2,y3,y4⟩:=e3
   dsimp only at *
   unfold maxLen at y2
   clear hc n4
   go_wp2
   go_loopw [27,6] (fun c v wi=>∃k:Nat,c=.int .i64 k∧k≤nl.length∧fP 2 dP 261 W0.heap.size wi v (cL b l i++cu nl l i k)∧fP 1 dV 9 W0.heap.size wi (Value.slice (some ⟨W0.heap.size+1,0,none⟩) 0 0) []∧(∀g,(Value.slice (some ⟨W0.heap.size+1,0,none⟩) 0 0).ownBlock=some g→v.ownBlock≠some g)∧Ext W0 wi) (fun c _ _=>nl.length - (intOf c).toNat)
   case atStart=>exact ⟨0,rfl,Nat.zero_le _,by simpa [cu] using hrow.ext dP.keeps xw,hrow2.ext dV.keeps xw,HNE.out,xw⟩
   case round=>
    obtain ⟨k,rfl,hk',hrowi,hrowi2,hnei,hxi⟩:=hrel
    have HNEI:=Lib.hid hnei
    clear hnei
    have hXi:Ext w wr:=hx0.trans hxi
    by_cases hkl:k<nl.length
    ·have HY:=Lib.hid (iL (l:=l) (i:=i) hkl)
     have HN:=Lib.hid (jY (l:=l) (i:=i) hkl)
     rcases y4 with y4|⟨b3,o3,rfl,yb1,yb2,y4⟩
     ·rw [y4] at hkl;simp at hkl
     obtain ⟨es,el,⟨rfl,f1⟩,hes⟩:=y4 k hkl
     have t0:=hXi.keep (hes 0 _ rfl)
     rw [Nat.mul_one,Nat.add_zero] at t0
     clear hes y4
     have hsz:=Below.size hxi
     have hL:=kI nl l i k
     have hLL:(cL b l i++cu nl l i k).length=(cL b l i).length+(cu nl l i k).length:=List.length_append
     have hL2:(cL b l i++cu nl l i k).length≤2000000:=by omega
     clear hLL
     by_cases hp:nl[k]=l
     ·have ep:(nl[k] == l)=true:=beq_iff_eq.2 hp
      have HT:=Lib.hid (HY.out hp)
      clear hp
      go_wp2_with (at_builtin;refine bN dP.keeps rfl (.tmp 35) (.tmp 39) 243 rfl (W0.heap.size) 261 i0 _ 16 Tryz.underlying243 hi0 hz0 hz1 hz2 rfl (by decide) _ _ (by rfl) (hrowi.ext dP.keeps xw) ⟨wr.heap.size,0,none⟩ 1 [.int .i64 i,.int .i64 k] rfl rfl (ig (by simp)) (by simp [Value.oneCell']) (W0.heap.size) (W0.heap.size) (Nat.le_refl _) (by first|omega|(simp;omega)) (fun g hg=>.inr (hrowi.block g hg).1) (((i:Int),(k:Int))) ⟨rfl,jC (by omega),jC (by omega)⟩ (by first|omega|(simp;omega)) (by decide) (by first|omega|(simp;omega)) ?_;intro v3 w3 row3 ext3 gro3 own3)
      have hx3:=ext3 W0 xw (Nat.le_refl _)
      have row4:=(hrowi2.ext dV.keeps xw).kept dV.flat gro3 HNEI.out
      have hne3:=jZ own3 HNEI.out (fun g hg=>by have:=hrowi2.block g hg;simp;omega)
      go_roundw
      case rel=>exact ⟨k+1,rfl,by omega,by rw [HT.out,← List.append_assoc];exact row3,row4,hne3,hx3⟩
      ·simp only [intOf];omega
     ·have ep:(nl[k] == l)=false:=beq_eq_false_iff_ne.2 hp
      have HT:=Lib.hid (HN.out hp)
      clear hp
      go_wp2
      go_roundw
      case rel=>exact ⟨k+1,rfl,by omega,by rw [HT.out];exact hrowi,hrowi2,HNEI.out,xw⟩
      ·simp only [intOf];omega
    ·have e:k=nl.length:=by omega
     subst e
     go_wp2
     go_roundw
     case rel=>exact ⟨i+1,rfl,by omega,by rw [HPS.out];exact hrowi,hrowi2,HNEI.out,hxi⟩
     ·simp only [intOf];omega
  ·have e:i=b.nodes.length:=by omega
   subst e
   clear hab hrowa hrowb
   have hpl:=gP b l b.nodes.length (Nat.le_refl _) hlinks
   go_wp2
   go_loopw [46,7] (fun c u wr=>∃i:Nat,c=.int .i64 i∧i≤b.inner.length∧fP 1 dV 9 W0.heap.size wr u (dJ b l i)∧fP 2 dP 261 W0.heap.size wr u6 (aE b l)∧(∀g,u6.ownBlock=some g→u.ownBlock≠some g)∧Ext W0 wr) (fun c _ _=>b.inner.length - (intOf c).toNat)
   case atStart=>exact ⟨0,rfl,Nat.zero_le _,hrow2,hrow,ph HNE.out,hx⟩
   case round=>
    obtain ⟨i,rfl,hi',hrow7,hrow6,hne,hx⟩:=hrel
    have HNE2:=Lib.hid hne
    clear hne
    have pi1:=hx.keep pi
    have hX:Ext w wr:=hx0.trans hx
    by_cases hlt:i<b.inner.length
    ·have HY:=Lib.hid (lP (l:=l) hlt)
     have HN:=Lib.hid (nJ (l:=l) hlt)
     rcases i4 with i4|⟨bi,oi,rfl,ib1,ib2,i4⟩
     ·rw [i4] at hlt;simp at hlt
     obtain ⟨cs,hl,⟨rfl,e1,e2⟩,hc⟩:=i4 i hlt
     have q0:=hX.keep (hc 0 _ rfl)
     have q1:=hX.keep (hc 1 _ rfl)
     rw [Nat.add_zero] at q0
     clear hc i4
     have hsz:=Below.size hx
     have hL:=gA b l i
     by_cases hp:(b.inner[i]).link=l
     ·have ep:((b.inner[i]).link == l)=true:=beq_iff_eq.2 hp
      have HT:=Lib.hid (HY.out hp)
      clear hp
      go_wp2_with (at_builtin;refine bN dV.keeps rfl (.tmp 54) (.tmp 57) 26 rfl (W0.heap.size) 9 j0 _ 16 Tryz.underlying26 hj0 hy0 hy1 hy2 rfl (by decide) _ _ (by rfl) (hrow7.ext dV.keeps xw) ⟨wr.heap.size+1,0,none⟩ 1 [.string (b.inner[i]).name] rfl rfl (ig (by simp)) (by simp [Value.oneCell']) (W0.heap.size) (W0.heap.size) (Nat.le_refl _) (by first|omega|(simp;omega)) (fun g hg=>.inr (hrow7.block g hg).1) ((b.inner[i]).name) ⟨rfl,e1⟩ (by first|omega|(simp;omega)) (by decide) (by first|omega|(simp;omega)) ?_;intro v3 w3 row3 ext3 gro3 own3)
      have hx3:=ext3 W0 xw (Nat.le_refl _)
      have row4:=(hrow6.ext dP.keeps xw).kept dP.flat gro3 HNE2.out
      have hne3:=jZ own3 HNE2.out (fun g hg=>by have:=hrow6.block g hg;simp;omega)
      go_roundw
      case rel=>exact ⟨i+1,rfl,by omega,by rw [HT.out];exact row3,row4,hne3,hx3⟩
      ·simp only [intOf];omega
     ·have ep:((b.inner[i]).link == l)=false:=beq_eq_false_iff_ne.2 hp
      have HT:=Lib.hid (HN.out hp)
      clear hp
      go_wp2
      go_roundw
      case rel=>exact ⟨i+1,rfl,by omega,by rw [HT.out];exact hrow7.ext dV.keeps xw,hrow6.ext dP.keeps xw,HNE2.out,xw⟩
      ·simp only [intOf];omega
    ·have e:i=b.inner.length:=by omega
     subst e
     go_wp2
     go_ret2
     exact ⟨_,_,rfl,hrow6.toSlV dP.widens (by omega),hrow7.toSlV dV.widens (by omega),hX⟩
set_option maxHeartbeats 1600000 in
theorem fS (lo hi:Nat) (cs:List Value) (b:Big) (l:Int) (w:World) (h:dw lo hi w cs b) (hlen:b.nodes.length≤1000) (hlinks:∀i (h:i<b.nodes.length),(b.nodes[i]).links.length≤1000) (hlen2:b.inner.length≤1048576) :
 Calls Tryz.prog 251 #[.agg cs.toArray,.int .i64 l] w fun e w'=>e=.returned (.bool (jf b l))∧Ext w w':=by
 have hB:=h
 obtain ⟨v1,v2,v4,v5,rfl,r1,r2,hN,hS,hO,hI⟩:=h
 obtain ⟨W0,hW0,hbx,hx0,hz⟩:=bH w [.int .i64 b.roots,v1,v2,.int .i64 b.edges,v4,v5] 46
 have p0:=(hbx 0 _ rfl).1
 have p1:=(hbx 1 _ rfl).1
 have p2:=(hbx 2 _ rfl).1
 have p3:=(hbx 3 _ rfl).1
 have p4:=(hbx 4 _ rfl).1
 have p5:=(hbx 5 _ rfl).1
 clear hz hbx
 replace hB:=dw.keeps _ _ _ _ _ _ (cW.ext hx0) hB
 have hpl:(aE b l).length≤1000000:=by have:=gP b l b.nodes.length (Nat.le_refl _) hlinks;unfold aE;omega
 have hel:(iP b l).length≤1048576:=by have:=gA b l b.inner.length;unfold iP;omega
 have HI:=Lib.hid (show jf b l=(decide ((aE b l).length=0) && decide ((iP b l).length=0)) by unfold jf;rw [qS,qS])
 go_enter Tryz.func251,Tryz.ntmps251
 go_wp2_with fail
 refine (i7 lo hi [.int .i64 b.roots,v1,v2,.int .i64 b.edges,v4,v5] b l _ hB hlen hlinks hlen2).mono ?_
 rintro e y ⟨u,u',rfl,hU,hU',hb⟩
 obtain ⟨ua,uk,rfl,z1,z2,z3,z4⟩:=hU
 obtain ⟨ua',uk',rfl,z1',z2',z3',z4'⟩:=hU'
 clear z4 z4'
 go_wp2
 go_ret
 exact ⟨ap (by rw [HI.out,Bool.eq_iff_iff];simp only [beq_iff_eq,Bool.and_eq_true,decide_eq_true_eq];omega),xw⟩
end Go.Proofs.YtacafmejcdgboaaGreatDoor
namespace Go.Proofs.YtacafmejcdgboaaGreatDoor
open Go.RowKit
set_option linter.unusedVariables false
set_option linter.unusedSimpArgs false
def gj (b:Big) (r:Nat):Bool:=!(decide ((eI b (-1 - r)).length=0)) && decide ((bq b (-1 - r)).length=0)
def cS (b:Big) (i:Nat):Bool:=decide ((bq b i).length≤1)
def cY (b:Big) (l:Nat):Bool:=!(jf b l)
def dS (b:Big) (n:Nat):Bool:=if -b.roots+n<0 then gj b (-1 - (-b.roots+n)).toNat else cS b (-b.roots+n).toNat
def ak (b:Big):Nat:=(b.edges+b.outer.length).toNat
def cD (b:Big):Bool:=(decide (b.inner.length=0) && !(decide (b.roots=0))) && ((List.range b.roots.toNat).all (gj b) && ((List.range b.nodes.length).all (cS b) && (List.range (ak b)).all (cY b)))
structure qK (b:Big):Prop where
 roots:inR b.roots 0 4=true
 edges:inR b.edges 0 8=true
 nodes:b.nodes.length≤1000
 sites:b.sites.length≤1000
 outer:b.outer.length≤1000
 inner:b.inner.length≤1048576
 links:∀i (h:i<b.nodes.length),(b.nodes[i]).links.length≤1000
theorem aG (f:Nat→Bool) (n:Nat):(List.range n).all f=true↔∀i,i<n→f i=true:=by
 rw [List.all_eq_true];constructor
 ·intro h i hi;exact h i (List.mem_range.2 hi)
 ·intro h i hi;exact h i (List.mem_range.1 hi)
theorem ng (b:Big) (h:0≤b.roots):(List.range (b.roots.toNat+b.nodes.length)).all (dS b)=((List.range b.roots.toNat).all (gj b) && (List.range b.nodes.length).all (cS b)):=by
 rw [Bool.eq_iff_iff,Bool.and_eq_true,aG,aG,aG]
 constructor
 ·intro hh
  refine ⟨fun r hr=>?_,fun i hi=>?_⟩
  ·have:=hh (b.roots.toNat - 1 - r) (by omega)
   unfold dS at this
   rw [if_pos (by omega)] at this
   have e:(-1 - (-b.roots+((b.roots.toNat - 1 - r:Nat):Int))).toNat=r:=by omega
   rwa [e] at this
  ·have:=hh (b.roots.toNat+i) (by omega)
   unfold dS at this
   rw [if_neg (by omega)] at this
   have e:(-b.roots+((b.roots.toNat+i:Nat):Int)).toNat=i:=by omega
   rwa [e] at this
 ·rintro ⟨h1,h2⟩ n hn
  unfold dS
  split
  ·exact h1 _ (by omega)
  ·exact h2 _ (by omega)
theorem sw {b:Big} (h:0≤b.roots) (n:Nat) (hn:n<b.roots.toNat+b.nodes.length) (hp:dS b n=false):cD b=false:=by
 have:=ng b h
 rw [aK _ _ n hn hp] at this
 unfold cD
 rw [← Bool.and_assoc ((List.range b.roots.toNat).all (gj b)),← this];simp
theorem uC {b:Big} (n:Nat) (hn:n<ak b) (hp:cY b n=false):cD b=false:=by
 unfold cD;rw [aK _ _ n hn hp];simp
theorem uj {b:Big} (n:Nat) (hn:n<b.roots.toNat) (hp:gj b n=false):cD b=false:=by
 unfold cD;rw [aK _ _ n hn hp];simp
theorem uc {b:Big} (n:Nat) (hn:n<b.nodes.length) (hp:cS b n=false):cD b=false:=by
 unfold cD;rw [aK _ _ n hn hp];simp
theorem kL {b:Big} (h:¬b.inner.length=0∨b.roots=0):cD b=false:=by
 unfold cD
 rcases h with h|h
 ·rw [decide_eq_false h];rfl
 ·rw [decide_eq_true h];simp
theorem pl {b:Big} (h1:b.inner.length=0) (h2:¬b.roots=0) (h3:(List.range b.roots.toNat).all (gj b)=true) (h4:(List.range b.nodes.length).all (cS b)=true) (h5:(List.range (ak b)).all (cY b)=true):cD b=true:=by
 unfold cD;rw [decide_eq_true h1,decide_eq_false h2,h3,h4,h5];rfl
theorem sD {sig:List Ctl} (h:kl sig=true) (k:Int) (h0:0≤k) (h1:k<sig.length):(qD sig k).ports≤3:=by
 obtain ⟨m,rfl⟩:=Int.eq_ofNat_of_zero_le h0
 rw [iJ sig m (by omega)]
 unfold kl at h
 have h2:=(aG _ _).1 (Bool.and_eq_true_iff.1 h).2 m (by omega)
 rw [pA sig m (by omega)] at h2
 have h3:=(Bool.and_eq_true_iff.1 h2).1
 unfold F0 at h3
 simp only [Bool.and_eq_true] at h3
 have:=cA h3.2.1
 omega
theorem bw {sig:List Ctl} {b:Big} (h:aw sig b=true):qK b:=by
 obtain ⟨h1,h2,_,_⟩:=cZ h
 obtain ⟨a,r,c,d,e,f,g⟩:=eM h1
 refine ⟨r,e,by omega,by omega,by have:=fH f;omega,by have:=fH g;simp at this;omega,fun i hi=>?_⟩
 have h3:=(aG _ _).1 h2 i hi
 rw [lj sig b i hi] at h3
 simp only [Bool.and_eq_true,decide_eq_true_eq] at h3
 have hc:=cA h3.1
 have:=sD a _ hc.1 (by omega)
 omega
end Go.Proofs.YtacafmejcdgboaaGreatDoor
namespace Go.Proofs.YtacafmejcdgboaaGreatDoor
open Go.RowKit
set_option linter.unusedVariables false
set_option linter.unusedSimpArgs false
attribute [local irreducible] inR di cT eI bq aE iP jf gj cS cY dS
theorem xU (b:Big) (r:Nat):gj b r=(!(decide ((eI b (-1 - r)).length=0)) && decide ((bq b (-1 - r)).length=0)):=by unfold gj;rfl
theorem sj (b:Big) (i:Nat):cS b i=decide ((bq b i).length≤1):=by unfold cS;rfl
theorem rg (b:Big) (i:Nat):cY b i = !(jf b i):=by unfold cY;rfl
theorem tA (b:Big) (n:Nat) (p:Int) (hp:p = -b.roots+n) (h:p<0):dS b n=(!(decide ((eI b p).length=0)) && decide ((bq b p).length=0)):=by
 subst hp
 have:dS b n=if -b.roots+n<0 then gj b (-1 - (-b.roots+n)).toNat else cS b (-b.roots+n).toNat:=by unfold dS;rfl
 rw [this,if_pos h,xU,show (-1 - (((-1 - (-b.roots+(n:Int))).toNat:Nat):Int)) = -b.roots+n by omega]
theorem tC (b:Big) (n:Nat) (p:Int) (hp:p = -b.roots+n) (h:¬p<0):dS b n=decide ((bq b p).length≤1):=by
 subst hp
 have:dS b n=if -b.roots+n<0 then gj b (-1 - (-b.roots+n)).toNat else cS b (-b.roots+n).toNat:=by unfold dS;rfl
 rw [this,if_neg h,sj,show (((-b.roots+(n:Int)).toNat:Nat):Int) = -b.roots+n by omega]
theorem Aw (b:Big) (p:Int):(eI b p).length≤b.nodes.length:=by unfold eI;exact dx _ _
theorem wM (b:Big) (p:Int):(bq b p).length≤b.sites.length:=by unfold bq;exact dx _ _
set_option maxRecDepth 100000 in
set_option maxHeartbeats 3200000 in
theorem ex (lo hi:Nat) (cs:List Value) (b:Big) (w:World) (h:dw lo hi w cs b) (D:qK b) :
 Calls Tryz.prog 186 #[.agg cs.toArray] w fun e w'=>e=.returned (.bool (cD b))∧Ext w w':=by
 have hB:=h
 obtain ⟨v1,v2,v4,v5,rfl,r1,r2,hN,hS,hO,hI⟩:=h
 obtain ⟨a1,k1,rfl,g1,g2,g3,_⟩:=hN
 obtain ⟨a4,k4,rfl,o1,o2,o3,_⟩:=hO
 obtain ⟨a5,k5,rfl,l1,l2,l3,_⟩:=hI
 unfold maxLen at g2 o2 l2
 have hrr:=cA D.roots
 have hee:=cA D.edges
 have hdn:=D.nodes
 have hds:=D.sites
 have hdo:=D.outer
 have hdi:=D.inner
 obtain ⟨W0,hW0,hbx,hx0,hz⟩:=bH w [.int .i64 b.roots,.slice a1 b.nodes.length k1,v2,.int .i64 b.edges,.slice a4 b.outer.length k4,.slice a5 b.inner.length k5] 46
 have p0:=(hbx 0 _ rfl).1
 have p1:=(hbx 1 _ rfl).1
 have p2:=(hbx 2 _ rfl).1
 have p3:=(hbx 3 _ rfl).1
 have p4:=(hbx 4 _ rfl).1
 have p5:=(hbx 5 _ rfl).1
 clear hz hbx
 replace hB:=dw.keeps _ _ _ _ _ _ (cW.ext hx0) hB
 have HD:=Lib.hid D
 go_enter Tryz.func186,Tryz.ntmps186
 have Hr:=Lib.hid trivial
 by_cases hni:0<b.inner.length
 have eni:decide (0<b.inner.length)=true:=decide_eq_true hni
 have isF:=trivial
 rotate_left
 have eni:decide (0<b.inner.length)=false:=decide_eq_false hni
 by_cases hr:(b.roots)=(0)
 have er:((b.roots) == (0))=true:=beq_iff_eq.2 hr
 have Hr:=Lib.hid hr;clear hr
 have isF:=trivial
 rotate_left
 have er:((b.roots) == (0))=false:=beq_eq_false_iff_ne.2 hr
 have Hr:=Lib.hid hr;clear hr
 all_goals go_wp2_with fail
 all_goals first|(have:=isF;go_ret;exact ⟨ap (kL (by first|(left;omega)|(right;exact Hr.out))).symm,xw⟩)|skip
 have hin:b.inner.length=0:=by omega
 have HIN:=Lib.hid hin
 clear hin
 go_loopw [3] (fun c wr=>∃n:Nat,c=.int .i64 (-b.roots+n)∧n≤b.roots.toNat+b.nodes.length∧(List.range n).all (dS b)=true∧Ext W0 wr) (fun c _=>(b.nodes.length - intOf c).toNat)
 case atStart=>exact ⟨0,by simp,Nat.zero_le _,rfl,Ext.refl _⟩
 case round=>
  obtain ⟨n,rfl,hn0,hok,hx⟩:=hrel
  have HOK:=Lib.hid hok
  clear hok
  have hX:Ext w wr:=hx0.trans hx
  have q0:=hx.keep p0
  have q1:=hx.keep p1
  have q2:=hx.keep p2
  have q3:=hx.keep p3
  have q4:=hx.keep p4
  have q5:=hx.keep p5
  have hB':=dw.keeps _ _ _ _ _ _ (cW.ext hx) hB
  generalize hpp : -b.roots+(n:Int)=p
  have HPP:=Lib.hid hpp
  by_cases hlt:p<b.nodes.length
  ·have hnlt:n<b.roots.toNat+b.nodes.length:=by omega
   have HS:=Lib.hid (bL (dS b) n)
   have HBD:=Lib.hid (sw hrr.1 n hnlt)
   have HNG:=Lib.hid (tA b n p hpp.symm)
   have HPS:=Lib.hid (tC b n p hpp.symm)
   have hk1:=Aw b p
   have hh1:=wM b p
   have hpl : -4≤p:=by omega
   clear hpp
   go_wp2_with fail
   refine (iq lo hi [.int .i64 b.roots,.slice a1 b.nodes.length k1,v2,.int .i64 b.edges,.slice a4 b.outer.length k4,.slice a5 b.inner.length k5] b p _ hB' hdn hds).mono ?_
   rintro e y ⟨u,u',rfl,hU,hU',hb⟩
   obtain ⟨ua,uk,rfl,z1,z2,z3,z4⟩:=hU
   obtain ⟨ua',uk',rfl,z1',z2',z3',z4'⟩:=hU'
   clear z4 z4'
   replace q0:=hb.keep q0
   replace q1:=hb.keep q1
   have Hk:=Lib.hid trivial
   have hc:True:=trivial
   have hd:True:=trivial
   by_cases ha:p<0
   have ea:decide (p<0)=true:=decide_eq_true ha
   by_cases hk:(((eI b p).length:Int))=(0)
   have ek:((((eI b p).length:Int)) == (0))=true:=beq_iff_eq.2 hk
   have Hk:=Lib.hid hk;clear hk
   have HB:=Lib.hid (HBD.out (by first|(rw [HNG.out (by omega)];have:=Hk.out;first|(rw [decide_eq_true (by omega)];rfl)|(rw [decide_eq_false (by omega),decide_eq_false (by omega)];rfl))|(rw [HPS.out (by omega)];rw [decide_eq_false (by omega)])|(exfalso;omega)))
   have isF:=trivial
   rotate_left
   have ek:((((eI b p).length:Int)) == (0))=false:=beq_eq_false_iff_ne.2 hk
   have Hk:=Lib.hid hk;clear hk
   by_cases hc:0<(bq b p).length
   have ec:decide (0<(bq b p).length)=true:=decide_eq_true hc
   have HB:=Lib.hid (HBD.out (by first|(rw [HNG.out (by omega)];have:=Hk.out;first|(rw [decide_eq_true (by omega)];rfl)|(rw [decide_eq_false (by omega),decide_eq_false (by omega)];rfl))|(rw [HPS.out (by omega)];rw [decide_eq_false (by omega)])|(exfalso;omega)))
   have isF:=trivial
   rotate_left
   have ec:decide (0<(bq b p).length)=false:=decide_eq_false hc
   by_cases hd:1<(bq b p).length
   have ed:decide (1<(bq b p).length)=true:=decide_eq_true hd
   have HB:=Lib.hid (HBD.out (by first|(rw [HNG.out (by omega)];have:=Hk.out;first|(rw [decide_eq_true (by omega)];rfl)|(rw [decide_eq_false (by omega),decide_eq_false (by omega)];rfl))|(rw [HPS.out (by omega)];rw [decide_eq_false (by omega)])|(exfalso;omega)))
   have isF:=trivial
   rotate_left
   have ed:decide (1<(bq b p).length)=false:=decide_eq_false hd
   have HG:=Lib.hid (show dS b n=true by first|(rw [HNG.out (by omega)];have:=Hk.out;rw [decide_eq_false (by omega),decide_eq_true (by omega)];rfl)|(rw [HPS.out (by omega)];rw [decide_eq_true (by omega)]))
   have isP:=trivial
   rotate_left
   have ea:decide (p<0)=false:=decide_eq_false ha
   by_cases hd:1<(bq b p).length
   have ed:decide (1<(bq b p).length)=true:=decide_eq_true hd
   have HB:=Lib.hid (HBD.out (by first|(rw [HNG.out (by omega)];have:=Hk.out;first|(rw [decide_eq_true (by omega)];rfl)|(rw [decide_eq_false (by omega),decide_eq_false (by omega)];rfl))|(rw [HPS.out (by omega)];rw [decide_eq_false (by omega)])|(exfalso;omega)))
   have isF:=trivial
   rotate_left
   have ed:decide (1<(bq b p).length)=false:=decide_eq_false hd
   have HG:=Lib.hid (show dS b n=true by first|(rw [HNG.out (by omega)];have:=Hk.out;rw [decide_eq_false (by omega),decide_eq_true (by omega)];rfl)|(rw [HPS.out (by omega)];rw [decide_eq_true (by omega)]))
   have isP:=trivial
   all_goals go_wp2_with fail
   all_goals first|(have:=isF;all_goals go_ret;all_goals exact ⟨ap HB.out.symm,xw⟩)|(have:=isP;go_roundw;(case rel=>exact ⟨n+1,by have:=HPP.out;congr 1;omega,by omega,by rw [HS.out,HOK.out,HG.out];rfl,xw⟩);· simp only [intOf];omega)
  ·have hne:n=b.roots.toNat+b.nodes.length:=by omega
   subst hne
   have HAL:=Lib.hid (ng b hrr.1)
   have hln:((ak b:Nat):Int)=b.edges+b.outer.length:=by unfold ak;omega
   clear hpp
   go_wp2
   go_loopw [55] (fun c wi=>∃i:Nat,c=.int .i64 i∧i≤ak b∧(List.range i).all (cY b)=true∧Ext W0 wi) (fun c _=>ak b - (intOf c).toNat)
   case atStart=>exact ⟨0,rfl,Nat.zero_le _,rfl,xw⟩
   case round=>
    obtain ⟨i,rfl,hi0,hok,hxi⟩:=hrel
    have HOK2:=Lib.hid hok
    clear hok
    have hXi:Ext w wr:=hx0.trans hxi
    have s0:=hxi.keep p0
    have s1:=hxi.keep p1
    have s2:=hxi.keep p2
    have s3:=hxi.keep p3
    have s4:=hxi.keep p4
    have s5:=hxi.keep p5
    have hB2:=dw.keeps _ _ _ _ _ _ (cW.ext hxi) hB
    by_cases hil:i<ak b
    ·have HS2:=Lib.hid (bL (cY b) i)
     have HBL:=Lib.hid (uC i hil)
     have HLS:=Lib.hid (rg b i)
     cases hid:jf b i
     ·have HI:=Lib.hid hid
      clear hid
      go_wp2_with (go_at_call 251;refine (fS lo hi [.int .i64 b.roots,.slice a1 b.nodes.length k1,v2,.int .i64 b.edges,.slice a4 b.outer.length k4,.slice a5 b.inner.length k5] b i _ hB2 hdn HD.out.links hdi).mono ?_;rintro e y ⟨rfl,hb⟩;rw [HI.out])
      go_roundw
      case rel=>exact ⟨i+1,rfl,by omega,by rw [HS2.out,HOK2.out,HLS.out,HI.out];rfl,xw⟩
      ·simp only [intOf];omega
     ·have HI:=Lib.hid hid
      clear hid
      go_wp2_with (go_at_call 251;refine (fS lo hi [.int .i64 b.roots,.slice a1 b.nodes.length k1,v2,.int .i64 b.edges,.slice a4 b.outer.length k4,.slice a5 b.inner.length k5] b i _ hB2 hdn HD.out.links hdi).mono ?_;rintro e y ⟨rfl,hb⟩;rw [HI.out])
      go_ret
      exact ⟨ap (HBL.out (by rw [HLS.out,HI.out];rfl)).symm,xw⟩
    ·have hie:i=ak b:=by omega
     subst hie
     go_wp2
     go_ret
     exact ⟨ap (by have h1:=HAL.out;rw [HOK.out] at h1;have h2:=Bool.and_eq_true_iff.1 h1.symm;exact (pl HIN.out Hr.out h2.1 h2.2 HOK2.out).symm),xw⟩
end Go.Proofs.YtacafmejcdgboaaGreatDoor
namespace Go.Proofs.YtacafmejcdgboaaGreatDoor
open Go.RowKit
set_option linter.unusedVariables false
set_option linter.unusedSimpArgs false
def eq (l:List Int) (n:Int):Bool:=l.any (fun x=>x == n)
attribute [local irreducible] inR
end Go.Proofs.YtacafmejcdgboaaGreatDoor
namespace Go.Proofs.YtacafmejcdgboaaGreatDoor
open Go.RowKit
set_option linter.unusedVariables false
set_option linter.unusedSimpArgs false
theorem dc {sig:List Ctl} {b:Big} (h:aw sig b=true) (i:Nat) (hi:i<b.nodes.length):0≤(b.nodes[i]).control∧(b.nodes[i]).control<sig.length∧cR sig b (b.nodes[i]).parent i=true∧((b.nodes[i]).links.length:Int)=(qD sig (b.nodes[i]).control).ports∧∀l∈(b.nodes[i]).links,dy b l=true:=by
 have h3:=(aG _ _).1 (cZ h).2.1 i hi
 rw [lj sig b i hi] at h3
 simp only [Bool.and_eq_true,decide_eq_true_eq] at h3
 have hc:=cA h3.1
 refine ⟨hc.1,by omega,h3.2.1,h3.2.2.1,fun l hl=>?_⟩
 have h4:=h3.2.2.2
 simp only [Bool.not_eq_true',List.any_eq_false] at h4
 simpa using h4 l hl
theorem gN {sig:List Ctl} {b:Big} (h:aw sig b=true) (i:Nat) (hi:i<b.nodes.length) : -b.roots≤(b.nodes[i]).parent∧(b.nodes[i]).parent<i:=by
 obtain ⟨_,_,hu,_⟩:=dc h i hi
 have hr:inR b.roots 0 4=true:=(eM (cZ h).1).2.1
 have:=cA hr
 unfold cR at hu
 split at hu
 ·simp only [decide_eq_true_eq] at hu;omega
 ·simp only [Bool.and_eq_true,decide_eq_true_eq] at hu;omega
def kw (b:Big) (f:Int→Bool):Nat→Int→Bool
 | 0,_=>false
 | n+1,p=>if p<0 then false else f p || kw b f n (cI b p).parent
def jA (b:Big) (f:Int→Bool) (p:Int):Bool:=kw b f (p.toNat+1) p
theorem wW {sig:List Ctl} {b:Big} (h:aw sig b=true) (f:Int→Bool):∀(m n:Nat) (p:Int),p<b.nodes.length→p.toNat<m→p.toNat<n→kw b f m p=kw b f n p:=by
 intro m
 induction m with
 | zero=>intro n p _ hf;omega
 | succ m ih=>
  intro n p hp hf hg
  cases n with
  | zero=>omega
  | succ n=>
   unfold kw
   by_cases hn:p<0
   ·rw [if_pos hn,if_pos hn]
   ·rw [if_neg hn,if_neg hn]
    obtain ⟨k,rfl⟩:=Int.eq_ofNat_of_zero_le (show 0≤p by omega)
    have hl:k<b.nodes.length:=by omega
    have:=gN h k hl
    rw [al b k hl]
    congr 1
    by_cases hq:(b.nodes[k]).parent<0
    ·cases m <;> cases n <;> simp [kw,hq]
    ·exact ih n _ (by omega) (by omega) (by omega)
theorem dX (b:Big) (f:Int→Bool) {p:Int} (h:p<0):jA b f p=false:=by
 unfold jA kw;rw [if_pos h]
theorem eK {sig:List Ctl} {b:Big} (h:aw sig b=true) (f:Int→Bool) (k:Nat) (hk:k<b.nodes.length):jA b f (k:Int)=(f k || jA b f (b.nodes[k]).parent):=by
 have hp:=gN h k hk
 have e:jA b f (k:Int)=(f k || kw b f k (b.nodes[k]).parent):=by
  unfold jA
  rw [show ((k:Int).toNat+1)=k+1 by omega,kw,if_neg (by omega),al b k hk]
 rw [e]
 congr 1
 by_cases hq:(b.nodes[k]).parent<0
 ·rw [dX b f hq]
  cases k with
  | zero=>rfl
  | succ k=>rw [kw,if_pos hq]
 ·exact wW h f _ _ _ (by omega) (by omega) (by omega)
theorem rf {sig:List Ctl} {b:Big} (h:aw sig b=true) {f g:Int→Bool} (hfg:∀k:Nat,k<b.nodes.length→f k=g k):∀(n:Nat) (p:Int),p<n→p<b.nodes.length→jA b f p=jA b g p:=by
 intro n
 induction n with
 | zero=>intro p hp _;rw [dX b f (by omega),dX b g (by omega)]
 | succ n ih=>
  intro p hp hl
  by_cases hq:p<0
  ·rw [dX b f hq,dX b g hq]
  ·obtain ⟨k,rfl⟩:=Int.eq_ofNat_of_zero_le (show 0≤p by omega)
   have hk:k<b.nodes.length:=by omega
   have:=gN h k hk
   rw [eK h f k hk,eK h g k hk,hfg k hk,ih _ (by omega) (by omega)]
def gX (b:Big) (ns:List Int) (p:Int):Bool:=jA b (eq ns) p
def qC (sig:List Ctl) (b:Big) (p:Int):Bool:=decide ((qD sig (cI b p).control).kind=1)
def kz (sig:List Ctl) (b:Big) (p:Int):Bool:=jA b (qC sig b) p
def ir (sig:List Ctl) (b:Big) (rs:List Int):Bool:=rs.all fun p=>!kz sig b p
structure Mat where
 nodes:List Int
 roots:List Int
def atI (l:List Int) (i:Int):Int:=l.getD i.toNat 0
def Fg (r:Big) (m:Mat) (i:Nat):Int:=if 0≤(cI r i).parent then atI m.nodes (cI r i).parent else atI m.roots (-1 - (cI r i).parent)
def tj (a:Big) (ns:List Int) (i:Nat):Bool:=inR (atI ns i) 0 (a.nodes.length - 1) && !eq (ns.take i) (atI ns i)
def sZ (r a:Big) (ns:List Int) (i:Nat):Bool:=decide ((cI a (atI ns i)).control=(cI r i).control)
def oK (r a:Big) (m:Mat) (i:Nat):Bool:=decide ((cI a (atI m.nodes i)).parent=Fg r m i)
def kO (r a:Big) (m:Mat) (i:Nat):Bool:=!(decide ((bq r i).length=0)) || (eI a (atI m.nodes i)).all (eq m.nodes)
def jG (a:Big) (ns:List Int) (p:Int):Bool:=inR p (-a.roots) (a.nodes.length - 1) && !gX a ns p
def gS (a:Big) (ns:List Int) (q:Int × Int):Int:=atI (cI a (atI ns q.1)).links q.2
def mb (r a:Big) (ns:List Int) (l:Int):Int:=match aE r l with | []=>-1|q :: _=>gS a ns q
def gT (r a:Big) (ns:List Int) (l:Nat):Bool:=(aE r l).all (fun q=>decide (gS a ns q=mb r a ns l)) && (!(decide ((l:Int)<r.edges)) || (decide (mb r a ns l<a.edges) && decide ((aE a (mb r a ns l)).length=(aE r l).length)))
def fQ (r a:Big) (ns:List Int):Bool:=(List.range (ak r)).all (gT r a ns)
def aJ (r a:Big) (ns:List Int):List Int:=(List.range (ak r)).map (fun (l:Nat)=>mb r a ns l)
def qG (r a:Big) (ns:List Int):Bool:=decide (ns.length=r.nodes.length) && ((List.range ns.length).all (tj a ns) && (List.range ns.length).all (sZ r a ns))
def fE (r a:Big) (m:Mat):Bool:=m.roots.all (jG a m.nodes) && decide ((m.roots.length:Int)=r.roots)
def eQ (r a:Big) (m:Mat):Bool:=(qG r a m.nodes && fE r a m) && ((List.range m.nodes.length).all (oK r a m) && ((List.range m.nodes.length).all (kO r a m) && fQ r a m.nodes))
def aM (r:Big) (l:Int) (k i:Nat):List (Int × Int):=cL r l k++cu (cI r k).links l k i
theorem mr (r:Big) (l:Int):aM r l 0 0 = []:=rfl
theorem jI (r:Big) (l:Int) (k:Nat) (hk:k<r.nodes.length):aM r l (k+1) 0=aM r l k (r.nodes[k]).links.length:=by
 unfold aM
 rw [eP r l k hk,al r k hk]
 simp [cu]
theorem jb (r:Big) (l:Int) (k i:Nat) (hk:k<r.nodes.length) (hi:i<(r.nodes[k]).links.length) (h:(r.nodes[k]).links[i]=l):aM r l k (i+1)=aM r l k i++[((k:Int),(i:Int))]:=by
 unfold aM
 rw [al r k hk,iL hi h,List.append_assoc]
theorem o8 (r:Big) (l:Int) (k i:Nat) (hk:k<r.nodes.length) (hi:i<(r.nodes[k]).links.length) (h:¬(r.nodes[k]).links[i]=l):aM r l k (i+1)=aM r l k i:=by
 unfold aM
 rw [al r k hk,jY hi h]
theorem iU (r:Big) (l:Int):aM r l r.nodes.length 0=aE r l:=by unfold aM aE;simp [cu]
theorem ja (r:Big) (l:Int) (k i:Nat) (hk:k<r.nodes.length) (hi:i≤(r.nodes[k]).links.length):∃t,aE r l=aM r l k i++t:=by
 have step:∀n j,j+n=(r.nodes[k]).links.length→∃t,cu (r.nodes[k]).links l k (r.nodes[k]).links.length=cu (r.nodes[k]).links l k j++t:=by
  intro n
  induction n with
  | zero=>intro j hj;exact ⟨[],by rw [← hj];simp⟩
  | succ n ih=>
   intro j hj
   obtain ⟨t,ht⟩:=ih (j+1) (by omega)
   by_cases h:(r.nodes[k]).links[j]'(by omega)=l
   ·rw [iL (by omega) h] at ht;exact ⟨_,by rw [ht,List.append_assoc]⟩
   ·rw [jY (by omega) h] at ht;exact ⟨t,ht⟩
 have all:∀n m,m+n=r.nodes.length→∃t,cL r l r.nodes.length=cL r l m++t:=by
  intro n
  induction n with
  | zero=>intro m hm;exact ⟨[],by rw [← hm];simp⟩
  | succ n ih=>
   intro m hm
   obtain ⟨t,ht⟩:=ih (m+1) (by omega)
   rw [eP r l m (by omega),List.append_assoc] at ht
   exact ⟨_,ht⟩
 obtain ⟨t1,h1⟩:=step _ i (by omega:i+((r.nodes[k]).links.length - i)=_)
 obtain ⟨t2,h2⟩:=all _ (k+1) (by omega:k+1+(r.nodes.length - (k+1))=_)
 rw [eP r l k hk,h1] at h2
 exact ⟨t1++t2,by unfold aE aM;rw [h2,al r k hk];simp⟩
def ji (a:Big) (ns:List Int) (ps:List (Int × Int)):Int:=match ps with | []=>-1|q :: _=>gS a ns q
theorem zE (r a:Big) (ns:List Int) (l:Int):mb r a ns l=ji a ns (aE r l):=rfl
def ij (r a:Big) (ns:List Int) (k i:Nat):List Int:=(List.range (ak r)).map fun (l:Nat)=>ji a ns (aM r l k i)
def gR (r a:Big) (ns:List Int) (k i:Nat):Prop:=∀l:Nat,l<ak r→∀q∈aM r l k i,gS a ns q=ji a ns (aM r l k i)
theorem AE (r a:Big) (ns:List Int) (k i:Nat):(ij r a ns k i).length=ak r:=by simp [ij]
theorem mW (r a:Big) (ns:List Int) (k i l:Nat) (h:l<(ij r a ns k i).length):(ij r a ns k i)[l]=ji a ns (aM r l k i):=by simp [ij]
theorem wQ (r a:Big) (ns:List Int):ij r a ns 0 0=List.replicate (ak r) (-1):=by
 apply List.ext_getElem
 ·simp [ij]
 ·intro i h1 h2;rw [mW,mr,List.getElem_replicate];rfl
theorem wt (r a:Big) (ns:List Int) (k:Nat) (hk:k<r.nodes.length):ij r a ns (k+1) 0=ij r a ns k (r.nodes[k]).links.length:=by
 unfold ij;congr 1;funext l;rw [jI r l k hk]
theorem ww (r a:Big) (ns:List Int):gR r a ns 0 0:=fun l _ q hq=>by rw [mr] at hq;cases hq
theorem wZ {r a:Big} {ns:List Int} {k:Nat} (hk:k<r.nodes.length) (h:gR r a ns k (r.nodes[k]).links.length):gR r a ns (k+1) 0:=fun l hl q hq=>by
 rw [jI r l k hk] at hq ⊢;exact h l hl q hq
theorem ye (r a:Big) (ns:List Int):ij r a ns r.nodes.length 0=aJ r a ns:=by
 unfold ij aJ;congr 1;funext l;rw [iU];rfl
theorem wT (a:Big) (ns:List Int) (ps:List (Int × Int)) (q:Int × Int):ji a ns (ps++[q])=if ps = [] then gS a ns q else ji a ns ps:=by cases ps <;> simp [ji]
theorem xh {r a:Big} {ns:List Int} {k i l:Nat} (hk:k<r.nodes.length) (hi:i<(r.nodes[k]).links.length) (hl:(r.nodes[k]).links[i]=(l:Int)) (hll:l<ak r)
 (hag:gR r a ns k i) (hno:ji a ns (aM r l k i)<0∨ji a ns (aM r l k i)=gS a ns ((k:Int),(i:Int))) (h0:∀q∈aM r l k i,0≤gS a ns q) :
 ij r a ns k (i+1)=(ij r a ns k i).set l (gS a ns ((k:Int),(i:Int)))∧gR r a ns k (i+1):=by
 have hy:=jb r l k i hk hi hl
 have hn:∀m:Nat,m≠l→aM r m k (i+1)=aM r m k i:=fun m hm=>o8 r m k i hk hi (by rw [hl];omega)
 have hem:aM r l k i≠[]→ji a ns (aM r l k i)=gS a ns ((k:Int),(i:Int)):=fun hne=>by
  refine hno.resolve_left (fun h=>?_)
  cases hp:aM r l k i with
  | nil=>exact hne hp
  | cons q t=>
   have:=h0 q (by rw [hp];simp)
   rw [hp] at h
   unfold ji at h
   dsimp only at h
   omega
 have hh:ji a ns (aM r l k (i+1))=gS a ns ((k:Int),(i:Int)):=by
  rw [hy,wT]
  split
  ·rfl
  ·exact hem (by assumption)
 refine ⟨?_,fun m hm q hq=>?_⟩
 ·apply List.ext_getElem
  ·simp [ij]
  ·intro m h1 h2
   rw [mW,List.getElem_set]
   by_cases e:l=m
   ·subst e;rw [if_pos rfl,hh]
   ·rw [if_neg e,mW,hn m (fun h=>e h.symm)]
 ·by_cases e:m=l
  ·subst e
   rw [hh]
   rw [hy] at hq
   rcases List.mem_append.1 hq with hq|hq
   ·rw [hag m hm q hq];exact hem (fun h=>by rw [h] at hq;cases hq)
   ·rw [List.mem_singleton.1 hq]
  ·rw [hn m e] at hq ⊢;exact hag m hm q hq
theorem wB {r a:Big} {ns:List Int} {k i l:Nat} (hk:k<r.nodes.length) (hi:i<(r.nodes[k]).links.length) (hl:(r.nodes[k]).links[i]=(l:Int)) (h0:0≤ji a ns (aM r l k i)) (hne:¬ji a ns (aM r l k i)=gS a ns ((k:Int),(i:Int))):gT r a ns l=false:=by
 obtain ⟨t,ht⟩:=ja r l k (i+1) hk hi
 rw [jb r l k i hk hi hl] at ht
 have hp:aM r l k i≠[]:=fun h=>by rw [h] at h0;simp [ji] at h0
 have hh:mb r a ns l=ji a ns (aM r l k i):=by
  rw [zE,ht]
  cases hq:aM r l k i with
  | nil=>exact absurd hq hp
  | cons q u=>rfl
 unfold gT
 rw [Bool.and_eq_false_iff]
 left
 rw [List.all_eq_false]
 refine ⟨((k:Int),(i:Int)),by rw [ht];simp,?_⟩
 rw [hh]
 simp only [decide_eq_true_eq]
 exact fun h=>hne h.symm
theorem jN {r a:Big} {ns:List Int} {l:Nat} (hl:l<ak r) (h:gT r a ns l=false):fQ r a ns=false:=aK _ _ l hl h
theorem nS {r a:Big} {ns:List Int} (h:gR r a ns r.nodes.length 0) (l:Nat) (hl:l<ak r):(aE r l).all (fun q=>decide (gS a ns q=mb r a ns l))=true:=by
 rw [List.all_eq_true]
 intro q hq
 have:=h l hl q (by rw [iU];exact hq)
 rw [iU] at this
 exact decide_eq_true this
theorem bt {f:Nat→Bool} {n:Nat} {x:Int}:x∈idxOf f n↔∃i:Nat,i<n∧f i=true∧x=i:=by
 unfold idxOf
 simp only [List.mem_map,List.mem_filter,List.mem_range]
 constructor
 ·rintro ⟨i,⟨h1,h2⟩,h3⟩;exact ⟨i,h1,h2,h3.symm⟩
 ·rintro ⟨i,h1,h2,h3⟩;exact ⟨i,⟨h1,h2⟩,h3.symm⟩
theorem cz {l:List Int} {n:Int}:eq l n=true↔n∈l:=by
 unfold eq;rw [List.any_eq_true];constructor
 ·rintro ⟨x,h1,h2⟩;rw [beq_iff_eq] at h2;rw [← h2];exact h1
 ·exact fun h=>⟨n,h,by simp⟩
theorem xp (f:Nat→Bool) (n k:Nat) (h:k<n):eq (idxOf f n) (k:Int)=f k:=by
 rw [Bool.eq_iff_iff,cz,bt]
 constructor
 ·rintro ⟨i,_,h2,h3⟩;rw [show k=i by omega];exact h2
 ·exact fun h2=>⟨k,h,h2,rfl⟩
theorem Bm {sig:List Ctl} {b:Big} (h:aw sig b=true) {p:Int} (hp:p<b.nodes.length):gX b (idxOf (fun i=>qC sig b i) b.nodes.length) p=kz sig b p:=
 rf h (fun k hk=>xp _ _ k hk) (p.toNat+1) p (by omega) hp
def fZ (r a:Big) (m:Mat) (i:Nat):Bool:=sZ r a m.nodes i && (oK r a m i && kO r a m i)
theorem Ct (f g h:Nat→Bool) (n:Nat):(List.range n).all (fun i=>f i && (g i && h i))=((List.range n).all f && ((List.range n).all g && (List.range n).all h)):=by
 rw [Bool.eq_iff_iff]
 simp only [Bool.and_eq_true,aG]
 exact ⟨fun k=>⟨fun i hi=>(k i hi).1,fun i hi=>(k i hi).2.1,fun i hi=>(k i hi).2.2⟩,fun k i hi=>⟨k.1 i hi,k.2.1 i hi,k.2.2 i hi⟩⟩
theorem wg (r a:Big) (m:Mat):eQ r a m=((decide (m.nodes.length=r.nodes.length) && decide ((m.roots.length:Int)=r.roots)) && ((List.range m.nodes.length).all (tj a m.nodes) && (m.roots.all (jG a m.nodes) && ((List.range m.nodes.length).all (fZ r a m) && fQ r a m.nodes)))):=by
 have e:(List.range m.nodes.length).all (fZ r a m)=((List.range m.nodes.length).all (sZ r a m.nodes) && ((List.range m.nodes.length).all (oK r a m) && (List.range m.nodes.length).all (kO r a m))):=Ct _ _ _ _
 rw [e]
 unfold eQ qG fE
 rw [Bool.eq_iff_iff]
 simp only [Bool.and_eq_true]
 constructor
 ·rintro ⟨⟨⟨h1,h2,h3⟩,h4,h5⟩,h6,h7,h8⟩;exact ⟨⟨h1,h5⟩,h2,h4,⟨h3,h6,h7⟩,h8⟩
 ·rintro ⟨⟨h1,h5⟩,h2,h4,⟨h3,h6,h7⟩,h8⟩;exact ⟨⟨⟨h1,h2,h3⟩,h4,h5⟩,h6,h7,h8⟩
theorem cJ (f:Nat→Bool) (n:Nat):(List.range (n+1)).all f=((List.range n).all f && f n):=by rw [List.range_succ,List.all_append];simp
theorem eV (f:Nat→Bool) (n i:Nat) (h:n≤i) (hi:i≤n) (ha:(List.range i).all f=true):(List.range n).all f=true:=by rw [show n=i by omega];exact ha
def E0 (r a:Big) (ns:List Int) (i:Nat):Bool:=tj a ns i && sZ r a ns i
theorem vG (r a:Big) (ns:List Int):qG r a ns=(decide (ns.length=r.nodes.length) && (List.range ns.length).all (E0 r a ns)):=by
 unfold qG E0
 congr 1
 rw [Bool.eq_iff_iff]
 simp only [Bool.and_eq_true,aG]
 exact ⟨fun h i hi=>⟨h.1 i hi,h.2 i hi⟩,fun h=>⟨fun i hi=>(h i hi).1,fun i hi=>(h i hi).2⟩⟩
theorem DN (r a:Big) (ns:List Int) (i:Nat) (h:i<ns.length) (hr:i<r.nodes.length):E0 r a ns i=((inR ns[i] 0 ((a.nodes.length:Int) - 1) && !eq (ns.take i) ns[i]) && decide ((cI a ns[i]).control=(r.nodes[i]).control)):=by
 unfold E0 tj sZ
 rw [show atI ns (i:Int)=ns[i] by unfold atI;simp [h],al r i hr]
theorem fT {α:Type} (p:α→Bool) (xs:List α) (i:Nat) (h:xs.length≤i) (hp:(xs.take i).all p=true):xs.all p=true:=by rwa [List.take_of_length_le h] at hp
end Go.Proofs.YtacafmejcdgboaaGreatDoor
namespace Go.Proofs.YtacafmejcdgboaaGreatDoor
open Go.RowKit
set_option linter.unusedVariables false
set_option linter.unusedSimpArgs false
theorem iA {α:Type} (lt:α→α→Prop) (irr:∀x,¬lt x x) {l:List α} (h:l.Pairwise lt):l.Nodup:=by
 refine List.Pairwise.imp ?_ h
 intro a b hab e
 subst e
 exact irr _ hab
theorem kJ {links:List Int} {l:Int} {i k:Nat} {q:Int × Int}:q∈cu links l i k↔∃j:Nat,j<k∧links.getD j 0=l∧q=((i:Int),(j:Int)):=by
 unfold cu
 simp only [List.mem_map,List.mem_filter,List.mem_range,decide_eq_true_eq]
 constructor
 ·rintro ⟨j,⟨h1,h2⟩,h3⟩;exact ⟨j,h1,h2,h3.symm⟩
 ·rintro ⟨j,h1,h2,h3⟩;exact ⟨j,⟨h1,h2⟩,h3.symm⟩
theorem dz {b:Big} {l:Int} {q:Int × Int}:q∈aE b l↔∃(i j:Nat) (hi:i<b.nodes.length) (hj:j<(b.nodes[i]).links.length),(b.nodes[i]).links[j]=l∧q=((i:Int),(j:Int)):=by
 unfold aE cL
 simp only [List.mem_flatMap,List.mem_range,kJ]
 constructor
 ·rintro ⟨i,hi,j,hj,h1,h2⟩
  have e:b.nodes.getD i ⟨0,0,[]⟩=b.nodes[i]:=by simp [hi]
  rw [e] at hj h1
  exact ⟨i,j,hi,hj,by rw [← h1];simp [hj],h2⟩
 ·rintro ⟨i,j,hi,hj,h1,h2⟩
  have e:b.nodes.getD i ⟨0,0,[]⟩=b.nodes[i]:=by simp [hi]
  exact ⟨i,hi,j,by rw [e];exact hj,by rw [e,← h1];simp [hj],h2⟩
theorem sJ (b:Big) (l:Int):(aE b l).Nodup:=by
 have h:∀n,(cL b l n).Pairwise (fun p q:Int × Int=>p.1<q.1∨(p.1=q.1∧p.2<q.2)):=by
  intro n
  unfold cL
  rw [List.pairwise_flatMap]
  refine ⟨fun i _=>?_,?_⟩
  ·unfold cu
   rw [List.pairwise_map]
   exact (List.Pairwise.filter _ List.pairwise_lt_range).imp (fun h=>.inr ⟨rfl,by show (_:Int)<_;omega⟩)
  ·refine List.pairwise_lt_range.imp (fun {i j} hij x hx y hy=>?_)
   obtain ⟨_,_,_,rfl⟩:=kJ.1 hx
   obtain ⟨_,_,_,rfl⟩:=kJ.1 hy
   exact .inl (by show (_:Int)<_;omega)
 exact iA _ (fun x h=>by omega) (h _)
theorem ro {α:Type} [DecidableEq α]:∀(xs ys:List α),xs.Nodup→(∀x∈xs,x∈ys)→ys.length≤xs.length→∀y∈ys,y∈xs:=by
 intro xs
 induction xs with
 | nil=>intro ys _ _ hl y hy;cases ys <;> simp at *
 | cons x xs ih=>
  intro ys hn hs hl y hy
  rw [List.nodup_cons] at hn
  by_cases e:y=x
  ·simp [e]
  ·refine List.mem_cons_of_mem _ (ih (ys.erase x) hn.2 (fun z hz=>?_) ?_ y ((List.mem_erase_of_ne e).2 hy))
   ·have:z≠x:=fun h=>hn.1 (by rw [← h];exact hz)
    exact (List.mem_erase_of_ne this).2 (hs z (by simp [hz]))
   ·rw [List.length_erase_of_mem (hs x (by simp))];simp at hl;omega
theorem br (l:List Int) (i:Nat) (h:i<l.length):atI l (i:Int)=l[i]:=by unfold atI;simp [h]
theorem ud {l:List Int} {i:Int} (h0:0≤i) (h:i<l.length):atI l i∈l:=by
 obtain ⟨k,rfl⟩:=Int.eq_ofNat_of_zero_le h0
 rw [br l k (by omega)];exact List.getElem_mem _
structure nu (r a:Big) (ns:List Int):Prop where
 len:ns.length=r.nodes.length
 at':∀i (h:i<r.nodes.length),∃(m:Nat) (hm:m<a.nodes.length),atI ns (i:Int)=(m:Int)∧(a.nodes[m]).control=(r.nodes[i]).control
 inj:∀i j,i<r.nodes.length→j<r.nodes.length→atI ns (i:Int)=atI ns (j:Int)→i=j
theorem jp {r a:Big} {ns:List Int} (h:qG r a ns=true):nu r a ns:=by
 unfold qG at h
 simp only [Bool.and_eq_true,decide_eq_true_eq] at h
 obtain ⟨h1,h2,h3⟩:=h
 rw [aG] at h2 h3
 refine ⟨h1,fun i hi=>?_,fun i j hi hj e=>?_⟩
 ·have h4:=h2 i (by omega)
  have h5:=h3 i (by omega)
  unfold tj at h4
  unfold sZ at h5
  simp only [Bool.and_eq_true,decide_eq_true_eq] at h4 h5
  have h6:=cA h4.1
  obtain ⟨m,hm⟩:=Int.eq_ofNat_of_zero_le h6.1
  refine ⟨m,by omega,hm,?_⟩
  rw [hm,al a m (by omega),al r i hi] at h5
  exact h5
 ·have key:∀i j,i<j→j<ns.length→atI ns (i:Int)=atI ns (j:Int)→False:=fun i j hij hj e=>by
   have h4:=h2 j hj
   unfold tj at h4
   simp only [Bool.and_eq_true,Bool.not_eq_true'] at h4
   have h5:eq (ns.take j) (atI ns (j:Int))=true:=cz.2 (by
    rw [← e,br ns i (by omega)]
    exact List.mem_take_iff_getElem.2 ⟨i,by omega,rfl⟩)
   rw [h5] at h4
   exact absurd h4.2 (by simp)
  rcases Nat.lt_trichotomy i j with h|h|h
  ·exact (key i j h (by omega) e).elim
  ·exact h
  ·exact (key j i h (by omega) e.symm).elim
theorem Ce {r a:Big} {ns rs:List Int} (h1:(List.range ns.length).all (tj a ns)=true) (h2:(List.range ns.length).all (fZ r a ⟨ns,rs⟩)=true) (h3:ns.length=r.nodes.length):nu r a ns:=by
 refine jp ?_
 unfold qG
 rw [decide_eq_true h3,h1]
 rw [aG] at h2
 rw [Bool.true_and,Bool.true_and,aG]
 intro i hi
 have:=h2 i hi
 unfold fZ at this
 rw [Bool.and_eq_true] at this
 exact this.1
theorem nu.ports {sig:List Ctl} {r a:Big} {ns:List Int} (h:nu r a ns) (hr:aw sig r=true) (ha:aw sig a=true) {i m:Nat} (hi:i<r.nodes.length) (hm:m<a.nodes.length) (e:atI ns (i:Int)=(m:Int)):(a.nodes[m]).links.length=(r.nodes[i]).links.length:=by
 obtain ⟨m',hm',e',hc⟩:=h.at' i hi
 have:m'=m:=by omega
 subst this
 have h1:=(dc hr i hi).2.2.2.1
 have h2:=(dc ha m' hm').2.2.2.1
 rw [hc] at h2
 omega
theorem nu.img {sig:List Ctl} {r a:Big} {ns:List Int} (h:nu r a ns) (hr:aw sig r=true) (ha:aw sig a=true) {i j:Nat} (hi:i<r.nodes.length) (hj:j<(r.nodes[i]).links.length):∃(m:Nat) (hm:m<a.nodes.length) (hl:j<(a.nodes[m]).links.length),atI ns (i:Int)=(m:Int)∧gS a ns ((i:Int),(j:Int))=(a.nodes[m]).links[j]:=by
 obtain ⟨m,hm,e,_⟩:=h.at' i hi
 have hl:=h.ports hr ha hi hm e
 refine ⟨m,hm,by omega,e,?_⟩
 unfold gS
 rw [e,al a m hm,br _ j (by omega)]
theorem nu.img_link {sig:List Ctl} {r a:Big} {ns:List Int} (h:nu r a ns) (hr:aw sig r=true) (ha:aw sig a=true) {l:Int} {q:Int × Int} (hq:q∈aE r l):dy a (gS a ns q)=true:=by
 obtain ⟨i,j,hi,hj,_,rfl⟩:=dz.1 hq
 obtain ⟨m,hm,hl,_,e⟩:=h.img hr ha hi hj
 rw [e]
 exact (dc ha m hm).2.2.2.2 _ (List.getElem_mem _)
theorem lT {r a:Big} {ns rs:List Int} (h:fE r a ⟨ns,rs⟩=true):(rs.length:Int)=r.roots:=by
 unfold fE at h
 simp only [Bool.and_eq_true,decide_eq_true_eq] at h
 exact h.2
theorem FK {a:Big} {ns:List Int} (h:(List.range ns.length).all (tj a ns)=true) (i:Nat) (hi:i<ns.length):∃(m:Nat) (hm:m<a.nodes.length),atI ns (i:Int)=(m:Int):=by
 have h4:=(aG _ _).1 h i hi
 unfold tj at h4
 simp only [Bool.and_eq_true] at h4
 have h6:=cA h4.1
 obtain ⟨m,hm⟩:=Int.eq_ofNat_of_zero_le h6.1
 exact ⟨m,by omega,hm⟩
theorem gv {b:Big} {l:Int} (h:dy b l=true):∃n:Nat,l=(n:Int)∧n<ak b:=by
 unfold dy at h
 have:=cA h
 obtain ⟨n,hn⟩:=Int.eq_ofNat_of_zero_le this.1
 exact ⟨n,hn,by unfold ak;omega⟩
theorem nu.up_pos {sig:List Ctl} {r a:Big} {ns:List Int} (h:nu r a ns) (hr:aw sig r=true) (ha:aw sig a=true) {l:Int} {k i:Nat} (hk:k<r.nodes.length) (hi:i≤(r.nodes[k]).links.length):∀q∈aM r l k i,0≤gS a ns q:=by
 intro q hq
 obtain ⟨t,ht⟩:=ja r l k i hk hi
 obtain ⟨n,hn,_⟩:=gv (h.img_link hr ha (q:=q) (l:=l) (by rw [ht];exact List.mem_append_left _ hq))
 omega
theorem yN {r a:Big} {ns:List Int} (h:gR r a ns r.nodes.length 0) (he:∀l:Nat,(l:Int)<r.edges→l<ak r→gT r a ns l=true):fQ r a ns=true:=by
 unfold fQ
 rw [aG]
 intro l hl
 by_cases hle:(l:Int)<r.edges
 ·exact he l hle hl
 ·unfold gT
  rw [nS h l hl,decide_eq_false hle]
  rfl
theorem BT {r a:Big} {ns:List Int} (h:gR r a ns r.nodes.length 0) (l:Nat) (hl:l<ak r) (hle:(l:Int)<r.edges):gT r a ns l=(decide (mb r a ns l<a.edges) && decide ((aE a (mb r a ns l)).length=(aE r l).length)):=by
 unfold gT
 rw [nS h l hl,decide_eq_true hle]
 simp
def ny (r a:Big) (ns:List Int):List Int:=if fQ r a ns then aJ r a ns else []
theorem lC {r a:Big} {ns:List Int} (h:fQ r a ns=false):ny r a ns = []:=by unfold ny;rw [h];rfl
theorem jX {r a:Big} {ns:List Int} (h:fQ r a ns=true):ny r a ns=aJ r a ns:=by unfold ny;rw [h];rfl
def gw (r a:Big) (ns:List Int) (n:Nat):List Int:=(List.range n).map (fun (l:Nat)=>mb r a ns l)
theorem qh (r a:Big) (ns:List Int) (n:Nat):gw r a ns (n+1)=gw r a ns n++[mb r a ns n]:=by unfold gw;rw [List.range_succ,List.map_append];rfl
theorem tQ (a:Big) (ns:List Int):∀(ps:List (Int × Int)) (h:0<ps.length),ji a ns ps=gS a ns ps[0]
 | [],h=>by simp at h
 | _ :: _,_=>rfl
theorem gD {b:Big} (h:cD b=true) (l:Nat) (hl:l<ak b):aE b l≠[]:=by
 unfold cD at h
 simp only [Bool.and_eq_true,decide_eq_true_eq] at h
 obtain ⟨⟨h1,_⟩,_,_,h5⟩:=h
 have h6:=(aG _ _).1 h5 l hl
 intro he
 have hi:b.inner = []:=List.eq_nil_of_length_eq_zero h1
 unfold cY jf at h6
 rw [he] at h6
 simp [iP,dJ,hi] at h6
theorem zt {sig:List Ctl} {r a:Big} {ns:List Int} (h:nu r a ns) (hr:aw sig r=true) (ha:aw sig a=true) {l:Nat} (hl:gT r a ns l=true) (he:(l:Int)<r.edges) {q:Int × Int} (hq:q∈aE a (mb r a ns l)):q.1∈ns:=by
 unfold gT at hl
 simp only [Bool.and_eq_true,Bool.or_eq_true,Bool.not_eq_true',decide_eq_false_iff_not,List.all_eq_true,decide_eq_true_eq] at hl
 obtain ⟨h1,h2⟩:=hl
 obtain ⟨_,h3⟩:=h2.resolve_left (by omega)
 have hin:∀p∈aE r l,∃i j:Nat,i<r.nodes.length∧p=((i:Int),(j:Int))∧(atI ns p.1,p.2)∈aE a (mb r a ns l):=fun p hp=>by
  have h4:=h1 p hp
  obtain ⟨i,j,hi,hj,_,rfl⟩:=dz.1 hp
  obtain ⟨m,hm,hlm,e,e2⟩:=h.img hr ha hi hj
  exact ⟨i,j,hi,rfl,dz.2 ⟨m,j,hm,hlm,by rw [← e2,h4],by show (atI ns (i:Int),_)=_;rw [e]⟩⟩
 have hnd:((aE r l).map (fun p=>(atI ns p.1,p.2))).Nodup:=by
  unfold List.Nodup
  rw [List.pairwise_map]
  refine List.Pairwise.imp_of_mem ?_ (sJ r l)
  intro p p' hp hp' hne e
  obtain ⟨i,j,hi,rfl,_⟩:=hin p hp
  obtain ⟨i',j',hi',rfl,_⟩:=hin p' hp'
  simp only [Prod.mk.injEq] at e
  have:=h.inj i i' hi hi' e.1
  exact hne (by rw [this,e.2])
 have hall:=ro _ _ hnd (fun x hx=>by
  obtain ⟨p,hp,rfl⟩:=List.mem_map.1 hx
  exact (hin p hp).elim fun _ ⟨_,_,_,h⟩=>h) (by rw [List.length_map];omega) q hq
 obtain ⟨p,hp,rfl⟩:=List.mem_map.1 hall
 obtain ⟨i,j,hi,rfl,_⟩:=hin p hp
 exact ud (by omega) (by have:=h.len;show (i:Int)<_;omega)
theorem AA {α:Type} {lt:α→α→Prop} (irr:∀x,¬lt x x) (tr:∀x y z,lt x y→lt y z→lt x z):∀l1 l2:List α,l1.Pairwise lt→l2.Pairwise lt→(∀x,x∈l1↔x∈l2)→l1=l2:=by
 intro l1
 induction l1 with
 | nil=>
  intro l2 _ _ h
  cases l2 with
  | nil=>rfl
  | cons y l2=>exact absurd ((h y).2 (by simp)) (by simp)
 | cons x l1 ih=>
  intro l2 h1 h2 h
  cases l2 with
  | nil=>exact absurd ((h x).1 (by simp)) (by simp)
  | cons y l2=>
   rw [List.pairwise_cons] at h1 h2
   have hx:=(h x).1 (by simp)
   have hy:=(h y).2 (by simp)
   have e:x=y:=by
    rcases List.mem_cons.1 hx with e|hx
    ·exact e
    ·rcases List.mem_cons.1 hy with e|hy
     ·exact e.symm
     ·exact absurd (tr _ _ _ (h1.1 y hy) (h2.1 x hx)) (irr x)
   subst e
   rw [ih l2 h1.2 h2.2 (fun z=>⟨fun hz=>?_,fun hz=>?_⟩)]
   ·rcases List.mem_cons.1 ((h z).1 (by simp [hz])) with e|hz2
    ·subst e;exact absurd (h1.1 z hz) (irr z)
    ·exact hz2
   ·rcases List.mem_cons.1 ((h z).2 (by simp [hz])) with e|hz2
    ·subst e;exact absurd (h2.1 z hz) (irr z)
    ·exact hz2
theorem gG (f:Nat→Bool) (n:Nat):(idxOf f n).Pairwise (· < ·):=by
 unfold idxOf
 rw [List.pairwise_map]
 exact (List.Pairwise.filter _ List.pairwise_lt_range).imp (fun h=>by omega)
def cX (l:List Int) (x:Int):Int:=if eq l x then (l.idxOf x:Int) else -1
theorem fM {f:Nat→Bool} {n:Nat} (k:Nat) (hk:k<n):cX (idxOf f n) (k:Int)=if f k then ((idxOf f k).length:Int) else -1:=by
 unfold cX
 by_cases hf:f k=true
 ·have hm:(k:Int)∈idxOf f n:=bt.2 ⟨k,hk,hf,rfl⟩
  rw [if_pos (cz.2 hm),if_pos hf]
  congr 1
  have hsplit:∃t,idxOf f n=idxOf f k++(k:Int) :: t:=by
   obtain ⟨d,rfl⟩:∃d,n=k+1+d:=⟨n - (k+1),by omega⟩
   clear hk hm
   induction d with
   | zero=>exact ⟨[],by rw [Nat.add_zero,cP hf]⟩
   | succ d ih=>
    obtain ⟨t,ht⟩:=ih
    rw [show k+1+(d+1)=(k+1+d)+1 by omega]
    by_cases h2:f (k+1+d)=true
    ·exact ⟨t++[((k+1+d:Nat):Int)],by rw [cP h2,ht];simp⟩
    ·exact ⟨t,by rw [dK (by simpa using h2),ht]⟩
  obtain ⟨t,ht⟩:=hsplit
  rw [ht,List.idxOf_append,if_neg,List.idxOf_cons_self,Nat.zero_add]
  intro h
  obtain ⟨i,hi,_,e⟩:=bt.1 h
  omega
 ·rw [if_neg (fun h=>hf ?_),if_neg hf]
  obtain ⟨i,_,h2,e⟩:=bt.1 (cz.1 h)
  have:i=k:=by omega
  rw [← this];exact h2
def kh (r a:Big) (ns:List Int) (l:Nat):Bool:=!eq ((aJ r a ns).take r.edges.toNat) l
def iF (r a:Big) (ns:List Int):List Int:=idxOf (kh r a ns) a.edges.toNat
def ik (r a:Big) (ns:List Int) (l:Int):Int:=if l<a.edges then cX (iF r a ns) l else (iF r a ns).length+(l - a.edges)
def lX (a:Big) (ns:List Int):List Int:=idxOf (fun i=>!gX a ns i) a.nodes.length
def mi (a:Big) (ns:List Int) (i:Nat):Bool:=gX a ns i && !eq ns i
def bu (a:Big) (ns:List Int):List Int:=idxOf (mi a ns) a.nodes.length
def dH (a:Big) (ns:List Int) (p:Int):Int:=if 0≤p then cX (lX a ns) p else p
def FC (a:Big) (ns:List Int) (l:Nat):Bool:=(bu a ns).any fun k=>eq (cI a k).links l
def ai (a:Big) (ns:List Int):List Int:=idxOf (FC a ns) (ak a)
end Go.Proofs.YtacafmejcdgboaaGreatDoor
namespace Go.Proofs.YtacafmejcdgboaaGreatDoor
open Go.RowKit
set_option linter.unusedVariables false
set_option linter.unusedSimpArgs false
def lF (w:World) (g:Nat) (l:List Int):Prop:=w.heap[g]? = some (.cells (l.map (Value.int .i64)).toArray 3 (0,0))
theorem lF.lt {w:World} {g:Nat} {l:List Int} (h:lF w g l):g<w.heap.size:=(Array.getElem?_eq_some_iff.1 h).1
theorem lF.cell {w:World} {g:Nat} {l:List Int} (h:lF w g l) (j:Nat) (hj:j<l.length):w.cell? ⟨g,j,none⟩=some (.int .i64 l[j]):=by
 unfold lF at h
 simp [World.cell?,h,hj]
theorem lF.froz {w:World} {g:Nat} {l:List Int} (h:lF w g l) (j:Nat):w.frozen? ⟨g,j,none⟩=false:=by
 unfold lF at h
 simp [World.frozen?,h]
theorem lF.ext {w w':World} {g:Nat} {l:List Int} (h:lF w g l) (hx:Ext w w'):lF w' g l:=(hx.block g h.lt).trans h
theorem lF.row {w:World} {g:Nat} {l:List Int} (h:lF w g l) (l':List Int):lF (w.setRow g (l'.map (Value.int .i64)).toArray) g l':=by
 unfold lF at h ⊢
 exact setRow_heap w g _ _ _ _ h
theorem lF.set {w:World} {g:Nat} {l:List Int} (h:lF w g l) (j:Nat) (v:Int):lF (w.setCell ⟨g,j,none⟩ (.int .i64 v)) g (l.set j v):=by
 have h2:=h
 unfold lF at h2
 rw [setCell_eq_setRow w g j _ _ _ _ h2]
 have e:(l.map (Value.int .i64)).toArray.setIfInBounds j (.int .i64 v)=((l.set j v).map (Value.int .i64)).toArray:=by simp [List.map_set]
 rw [e]
 exact h.row _
theorem oI {P:Program} {w:World} {ops:Array Oper} {o:Oper} {a:Act} {Q:Exit→Act→World→Prop} {K:Act→World→Prop} (hw:Region.wanted o (yielded ops a.tmps)=true) (d s:Operand) (dT sT:TypeId)
 (ho:o.op=.call { callee:=.builtin .copy,args:=#[d,s],argTypes:=#[dT,sT] }) (elem:TypeId) (hu:P.underlying dT=some (.slice elem)) (hsz:(P.info? elem).map (·.size)=some 1)
 (g off dLen dCap:Nat) (ad:Addr) (eG sCap:Nat) (hd:a.eval d=.slice (some ⟨g,off,none⟩) dLen dCap) (hs:a.eval s=.slice (some ad) eG sCap)
 (cur:Array Value) (t:TypeId) (hg:w.heap[g]? = some (.cells cur t (0,0))) (cs:List Value) (hn:cs.length=Nat.min eG dLen)
 (hsrc:∀j v,cs[j]? = some v→w.cell? (ad.add j)=some v) (hfit:off+cs.length≤cur.size) (h1:∀v∈cs,v.oneCell'=true)
 (h:K (a.put o.dst (goInt cs.length)) (w.setRow g (cur.toList.take off++cs++cur.toList.drop (off+cs.length)).toArray)):if Region.wanted o (yielded ops a.tmps)=true then Oper.wp P o a w K Q else K (a.put o.dst undef) w:=by
 have hrun:=run_copy_row (P:=P) w dT sT o.type elem g off dLen dCap ad eG sCap cur t cs hu hsz hg hn hsrc hfit h1
 rw [if_pos hw]
 unfold Oper.wp
 simp [execOp,ho,resolve,invoke,builtin,hd,hs,hrun,Result.andThen,Oper.upon]
 simpa using h
theorem wh (n:Nat):(madeCells #[.int .i64 0] (n * 1)).toList=(List.replicate n (0:Int)).map (fun x=>Value.int .i64 x):=by
 unfold madeCells
 apply List.ext_getElem
 ·simp
 ·intro i h1 h2
  simp [Nat.mod_one]
def mB (x:Int) (k n:Nat):List Int:=List.replicate k x++List.replicate (n - k) 0
theorem BV (x:Int) (k n:Nat) (h:k≤n):(mB x k n).length=n:=by unfold mB;simp;omega
theorem rW (x:Int) (k c n:Nat) (h:k+c≤n):(((mB x k n).map (Value.int .i64)).take k++List.replicate c (.int .i64 x)++((mB x k n).map (Value.int .i64)).drop (k+c))=(mB x (k+c) n).map (Value.int .i64):=by
 unfold mB
 rw [← List.map_take,← List.map_drop,List.take_append_of_le_length (by simp),List.take_of_length_le (by simp),List.drop_append,List.drop_of_length_le (by simp),List.drop_replicate]
 simp only [List.map_append,List.map_replicate,List.length_replicate,List.nil_append]
 rw [show n - k - (k+c - k)=n - (k+c) by omega,List.replicate_append_replicate]
theorem BN (x:Int) (n:Nat):mB x n n=List.replicate n x:=by unfold mB;simp
theorem lF.drew {w:World} {g:Nat} {l:List Int} (h:lF w g l):lF w.drew g l:=h
theorem Dq {w:World} {g k c:Nat} {x:Int} {l:List Int} (h:lF w g l) (hc:c≤l.length) (hl:∀j (hj:j<l.length),j<c→l[j]=x):∀(j:Nat) (v:Value),(List.replicate c (Value.int .i64 x))[j]? = some v→w.cell? ((⟨g,0,none⟩:Addr).add j)=some v:=by
 intro j v hj
 obtain ⟨h1,h2⟩:=List.getElem?_eq_some_iff.1 hj
 rw [List.length_replicate] at h1
 rw [List.getElem_replicate] at h2
 have e:((⟨g,0,none⟩:Addr).add j)=⟨g,j,none⟩:=by cases j <;> simp [Addr.add]
 rw [e,h.cell j (by omega),hl j (by omega) h1,h2]
theorem DQ (x:Int) (k n j:Nat) (hj:j<(mB x k n).length) (h:j<k):(mB x k n)[j]=x:=by
 have h2:(mB x k n)[j]? = some x:=by
  unfold mB
  rw [List.getElem?_append_left (by simpa using h)]
  simp [h]
 exact (List.getElem?_eq_some_iff.1 h2).2
theorem CJ:(Tryz.prog.info? 3).map (·.size)=some 1:=by kernel_rfl
set_option maxRecDepth 100000 in
set_option maxHeartbeats 3200000 in
theorem iV (lo hi:Nat) (v:Value) (x:Int) (n:Nat) (w:World) (h:te lo hi w v [x]) (hn:n≤1000) :
 Calls Tryz.prog 224 #[v,.int .i64 n] w fun e w'=>∃g,e=.returned (.slice (some ⟨g,0,none⟩) n n)∧w.heap.size≤g∧lF w' g (List.replicate n x)∧Ext w w':=by
 obtain ⟨va,vk,rfl,n1,n2,n3,n4⟩:=h
 obtain ⟨b,o,rfl,hb1,hb2,n4⟩:=n4.resolve_left (by simp)
 obtain ⟨cs,cl,⟨rfl,ce⟩,cc⟩:=n4 0 (by simp)
 have c0:=cc 0 _ rfl
 simp only [Nat.zero_mul,Nat.add_zero,List.getElem_cons_zero] at c0 ce
 clear cc cl n4
 unfold maxLen at n2
 obtain ⟨i0,hi0,hz0,hz1,hz2⟩:=info_parts qg
 obtain ⟨W2,hmk,own0,gro0⟩:=run_make_full w w.heap.size 25 3 i0 _ 1 Tryz.underlying25 hi0 hz0 hz1 .i64 .i64 n (by rw [hz2];omega) (by unfold maxLen;omega) (Nat.le_refl _)
 have hx2:Ext w W2:=Bp gro0
 have hR0:lF W2 w.heap.size (mB x 0 n):=by
  obtain ⟨_,h|⟨g,cap,cur,h1,h2,h3,h4,h5,h6,h7⟩⟩:=own0
  ·cases h.1
  ·cases h1
   unfold lF
   rw [h3]
   have e:cur=((mB x 0 n).map (Value.int .i64)).toArray:=by
    apply Array.ext'
    rw [List.take_of_length_le (by simp;omega)] at h7
    rw [h7]
    have:=wh n
    change (madeCells (Value.int .i64 0).cells (n * 1)).toList=_ at this
    rw [this]
    unfold mB
    simp
   rw [e]
 have hd:=hx2.keep c0
 clear own0 gro0
 have jn:=IntWalk.i64_in (n:Int) (by omega)
 have hml:((1 * n / 18446744073709551616:Nat):Int)=0:=by omega
 have hmh:((1 * n % 18446744073709551616:Nat):Int)=(n:Int):=by omega
 have HM1:=Lib.hid hml
 have HM2:=Lib.hid hmh
 clear hml hmh
 obtain ⟨cn,hcn⟩:∃cn,Nat.min 1 n=cn:=⟨_,rfl⟩
 have hcn1:cn≤1:=by rw [← hcn];exact Nat.min_le_left _ _
 have hcn2:cn≤n:=by rw [← hcn];exact Nat.min_le_right _ _
 have hcn3:n=0∨cn=1:=by rw [← hcn];exact (Nat.eq_zero_or_pos n).imp id (fun h=>Nat.min_eq_left h)
 have HCN:=Lib.hid hcn
 clear hcn
 go_enter Tryz.func224,Tryz.ntmps224
 go_upto_region 7 with (go_at_call 261;refine (Tryz.bits_Mul 1 n (by omega) (by omega) _).mono ?_;rintro e y ⟨rfl,rfl⟩;rw [HM1.out,HM2.out])
 refine wp_region_lit ?_
 refine wpList_plain rfl fun K hK=>?_
 unfold Oper.wp
 go_simp
 refine hK _ _ ?_
 clear hK
 refine wpList_plain rfl fun K hK=>?_
 unfold Oper.wp
 go_simp
 refine hK _ _ ?_
 clear hK
 refine wpList_copy_own rfl (.tmp 31) (.tmp 32) 25 25 rfl 3 Tryz.underlying25 CJ y.heap.size 0 n n ⟨b,o,none⟩ 1 vk rfl rfl _ _ hR0 (List.replicate cn (.int .i64 x)) (by rw [List.length_replicate];exact HCN.out.symm) ?_ (by rw [List.length_replicate];simp [mB];omega) (fun v hv=>by rw [List.eq_of_mem_replicate hv];rfl) ?_
 ·intro j v hj
  obtain ⟨h1,h2⟩:=List.getElem?_eq_some_iff.1 hj
  rw [List.length_replicate] at h1
  rw [List.getElem_replicate] at h2
  obtain rfl:j=0:=by omega
  rw [← h2]
  simpa [Addr.add] using hd
 have hR3:lF (W2.setRow y.heap.size ((((mB x 0 n).map (Value.int .i64)).toArray.toList.take 0++(List.replicate cn (Value.int .i64 x)++((mB x 0 n).map (Value.int .i64)).toArray.toList.drop (0+(List.replicate cn (Value.int .i64 x)).length))).toArray)) y.heap.size (mB x cn n):=by
  have e:=rW x 0 cn n (by omega)
  rw [Nat.zero_add] at e
  rw [List.length_replicate,← List.append_assoc,Nat.zero_add,List.toList_toArray,e]
  exact hR0.row _
 have hx3:=below_setRow hx2 (Nat.le_refl y.heap.size) ((((mB x 0 n).map (Value.int .i64)).toArray.toList.take 0++(List.replicate cn (Value.int .i64 x)++((mB x 0 n).map (Value.int .i64)).toArray.toList.drop (0+(List.replicate cn (Value.int .i64 x)).length))).toArray)
 generalize W2.setRow y.heap.size _=W3 at hR3 hx3 ⊢
 replace hx3:Ext y W3:=hx3
 rw [List.length_replicate]
 clear hR0 hx2 hd hmk
 go_wp2
 go_loopw [8] (fun c wr=>∃k:Nat,c=.int .i64 k∧k≤n∧(n=0∨1≤k)∧lF wr y.heap.size (mB x k n)∧Ext y wr) (fun c _=>n - (intOf c).toNat)
 case atStart=>exact ⟨cn,rfl,hcn2,by omega,hR3,hx3⟩
 case round=>
  obtain ⟨k,rfl,hk0,hk1,hrow,hx⟩:=hrel
  clear hR3 hx3
  by_cases hlt:k<n
  ·obtain ⟨c,hc⟩:∃c,Nat.min k (n - k)=c:=⟨_,rfl⟩
   have hc1:c≤k:=by rw [← hc];exact Nat.min_le_left _ _
   have hc2:c≤n - k:=by rw [← hc];exact Nat.min_le_right _ _
   have hc3:1≤c:=by rw [← hc];exact Nat.le_min.2 ⟨by omega,by omega⟩
   have HC:=Lib.hid hc
   clear hc
   have hlen:=BV x k n hk0
   have hnk:¬n=k:=by omega
   have j0:(0:Int)≤(k:Int):=by omega
   have j1:(k:Int)≤(n:Int):=by omega
   have j2:(k:Int)<(n:Int):=by omega
   have j3:=IntWalk.i64_in ((k:Int)+(c:Int)) (by omega)
   go_upto_region 9 with fail
   refine wp_region_held_drew (S:=(fun w'=>Ext y w')) (by kernel_rfl) ?_ (fun hHeld=>?_)
   ·exact hx.drew
   refine tkP 0 ?_ ?_ ?_;rotate_left;focus (intro w;go_simp;try with_reducible rfl)
   try simp only [Act.put,aH]
   refine tkP 1 ?_ ?_ ?_;rotate_left;focus (intro w;go_simp;try with_reducible rfl)
   try simp only [Act.put,aH]
   refine tkP 2 ?_ ?_ ?_;rotate_left;focus (intro w;go_simp;try with_reducible rfl)
   try simp only [Act.put,aH]
   refine tkP 3 ?_ ?_ ?_;rotate_left;focus (intro w;go_simp;try with_reducible rfl)
   try simp only [Act.put,aH]
   refine tkP 4 ?_ ?_ ?_;rotate_left;focus (intro w;go_simp;try with_reducible rfl)
   try simp only [Act.put,aH]
   refine tkP 5 ?_ ?_ ?_;rotate_left;focus (intro w;go_simp;try with_reducible rfl)
   try simp only [Act.put,aH]
   refine tkP 6 ?_ ?_ ?_;rotate_left;focus (intro w;go_simp;try with_reducible rfl)
   try simp only [Act.put,aH]
   refine wpAnyH_ready (rs:=[7]) (by kernel_rfl) (by simp) ?_
   refine AllReadyH.cons rfl (fun K hK=>?_) AllReadyH.nil
   (refine oI rfl (.tmp 41) (.tmp 44) 25 25 rfl 3 Tryz.underlying25 CJ y.heap.size k (n - k) (n - k) ⟨y.heap.size,0,none⟩ k n (by first|rfl|exact congrArg (fun q=>Value.slice q (n - k) (n - k)) (if_neg hnk)) rfl _ _ hrow.drew (List.replicate c (.int .i64 x)) (by rw [List.length_replicate];exact HC.out.symm) (Dq (k:=k) hrow.drew (by omega) (fun j hj h=>DQ x k n j hj (by omega))) (by rw [List.length_replicate];simp [mB];omega) (fun v hv=>by rw [List.eq_of_mem_replicate hv];rfl) ?_;rw [List.length_replicate,List.toList_toArray,rW x k c n (by omega)];have hR4:=hrow.drew.row (mB x (k+c) n);have hx4:Ext y _:=below_setRow hx.drew (Nat.le_refl y.heap.size) (((mB x (k+c) n).map (Value.int .i64)).toArray))
   show K _ _
   refine hK.out _ _ (by exact hx4) (fun hHeld=>?_)
   clear hK K
   try simp only [Act.put,aH]
   refine tkP 8 ?_ ?_ ?_;rotate_left;focus (intro w;go_simp;try with_reducible rfl)
   try simp only [Act.put,aH]
   refine tkP 9 ?_ ?_ ?_;rotate_left;focus (intro w;go_simp;try with_reducible rfl)
   try simp only [Act.put,aH]
   refine wpAnyH_done (by kernel_rfl) ?_ _
   go_wp2
   go_roundw
   case rel=>exact ⟨k+c,rfl,by omega,by omega,hR4,hx4⟩
   all_goals (simp only [intOf];omega)
  ·have e:k=n:=by omega
   have HE:=Lib.hid (show mB x k n=List.replicate n x by rw [e,BN])
   clear e
   go_wp2
   go_ret
   exact ⟨_,rfl,Nat.le_refl _,by rw [← HE.out];exact hrow,hx⟩
end Go.Proofs.YtacafmejcdgboaaGreatDoor
namespace Go.Proofs.YtacafmejcdgboaaGreatDoor
open Go.RowKit
set_option linter.unusedVariables false
set_option linter.unusedSimpArgs false
theorem uQ:∀x:List UInt8,Op.bytesLess x x=false:=by
 intro x
 induction x with
 | nil=>rfl
 | cons a x ih=>simp [Op.bytesLess,ih]
theorem mo:∀x y z:List UInt8,Op.bytesLess x y=true→Op.bytesLess y z=true→Op.bytesLess x z=true:=by
 intro x
 induction x with
 | nil=>
  intro y z h1 h2
  cases y <;> cases z <;> simp_all [Op.bytesLess]
 | cons a x ih=>
  intro y z h1 h2
  cases y with
  | nil=>simp [Op.bytesLess] at h1
  | cons b y=>
   cases z with
   | nil=>simp [Op.bytesLess] at h2
   | cons c z=>
    simp only [Op.bytesLess,Bool.or_eq_true,Bool.and_eq_true,decide_eq_true_eq,beq_iff_eq] at h1 h2 ⊢
    rcases h1 with h1|⟨h1,h3⟩
    ·rcases h2 with h2|⟨h2,h4⟩
     ·exact .inl (UInt8.lt_trans h1 h2)
     ·subst h2;exact .inl h1
    ·subst h1
     rcases h2 with h2|⟨h2,h4⟩
     ·exact .inl h2
     ·exact .inr ⟨h2,ih _ _ h3 h4⟩
def NLt (a b:ByteArray):Prop:=cT a b=true
theorem NLt.irr (a:ByteArray):¬NLt a a:=fun h=>by
 unfold NLt cT at h
 rw [uQ] at h
 cases h
theorem NLt.trans (a b c:ByteArray) (h1:NLt a b) (h2:NLt b c):NLt a c:=mo _ _ _ h1 h2
theorem ug {α:Type} {lt:α→α→Prop} (tr:∀x y z,lt x y→lt y z→lt x z) (l:List α) (h:∀i (hi:i+1<l.length),lt (l[i]'(by omega)) l[i+1]):l.Pairwise lt:=by
 rw [List.pairwise_iff_getElem]
 intro i j hi hj hij
 obtain ⟨d,rfl⟩:∃d,j=i+1+d:=⟨j - (i+1),by omega⟩
 clear hij
 induction d with
 | zero=>exact h i hj
 | succ d ih=>exact tr _ _ _ (ih (by omega)) (h (i+1+d) (by omega))
theorem sn {l:List ByteArray} (h:de l=true):l.Pairwise NLt:=by
 refine ug NLt.trans l (fun i hi=>?_)
 unfold de at h
 have h2:=(aG _ _).1 (Bool.and_eq_true_iff.1 h).1 (i+1) hi
 rw [pq l (i+1) hi] at h2
 simp only [Bool.and_eq_true,Bool.or_eq_true,decide_eq_true_eq] at h2
 have h3:=h2.2.resolve_left (by omega)
 rw [Nat.add_sub_cancel,List.getD_eq_getElem?_getD,List.getElem?_eq_getElem (by omega),Option.getD_some] at h3
 exact h3
theorem fJ {a b:ByteArray} (h:a.toList=b.toList):a=b:=by
 rw [ByteArray.toList_eq,ByteArray.toList_eq] at h
 cases a;cases b;simp_all [Array.ext_iff]
theorem NLt.total {a b:ByteArray} (h:a≠b):NLt a b∨NLt b a:=by
 have:=jK a.toList b.toList
 unfold NLt cT
 by_cases h1:Op.bytesLess b.toList a.toList=true
 ·exact .inr h1
 ·rw [Bool.not_eq_true] at h1
  rw [h1] at this
  simp only [Bool.not_false,Bool.or_eq_true,beq_iff_eq] at this
  exact .inl (this.resolve_right (fun e=>h (fJ e)))
def fR {α:Type} (lt:α→α→Bool):List α→α→List α
 | [],x=>[x]
 | y :: t,x=>if lt y x then y :: fR lt t x else x :: y :: t
theorem uZ {α:Type} (lt:α→α→Bool) (x:α):∀(l:List α) (k:Nat),k≤l.length→(∀i (h:i<l.length),i<k→lt l[i] x=true)→(∀h:k<l.length,lt l[k] x=false)→fR lt l x=l.take k++x :: l.drop k:=by
 intro l
 induction l with
 | nil=>intro k hk _ _;simp at hk;subst hk;rfl
 | cons y t ih=>
  intro k hk h1 h2
  cases k with
  | zero=>
   have:=h2 (by simp)
   simp only [List.getElem_cons_zero] at this
   simp [fR,this]
  | succ k=>
   have h3:=h1 0 (by simp) (by omega)
   simp only [List.getElem_cons_zero] at h3
   simp only [fR,h3,if_true,List.take_succ_cons,List.drop_succ_cons,List.cons_append]
   rw [ih k (by simp at hk;omega) (fun i h hi=>by have:=h1 (i+1) (by simp;omega) (by omega);simpa using this) (fun h=>by have:=h2 (by simp;omega);simpa using this)]
theorem nz {α:Type} (lt:α→α→Bool) (x z:α):∀l:List α,z∈fR lt l x↔z=x∨z∈l:=by
 intro l
 induction l with
 | nil=>simp [fR]
 | cons y t ih=>
  unfold fR
  split
  ·rw [List.mem_cons,ih,List.mem_cons]
   constructor
   ·rintro (h|h|h) <;> simp [h]
   ·rintro (h|h|h) <;> simp [h]
  ·simp
theorem ou {α:Type} (lt:α→α→Bool) (x:α):∀l:List α,(fR lt l x).length=l.length+1:=by
 intro l
 induction l with
 | nil=>rfl
 | cons y t ih=>unfold fR;split <;> simp [ih]
theorem rU {α:Type} {lt:α→α→Bool} (tr:∀x y z,lt x y=true→lt y z=true→lt x z=true) (x:α):∀l:List α,l.Pairwise (fun a b=>lt a b=true)→(∀y∈l,lt y x=true∨lt x y=true)→(fR lt l x).Pairwise (fun a b=>lt a b=true):=by
 intro l
 induction l with
 | nil=>intro _ _;simp [fR]
 | cons y t ih=>
  intro h ht
  rw [List.pairwise_cons] at h
  unfold fR
  by_cases hy:lt y x=true
  ·rw [if_pos hy,List.pairwise_cons]
   refine ⟨fun z hz=>?_,ih h.2 (fun z hz=>ht z (by simp [hz]))⟩
   rcases (nz lt x z t).1 hz with e|hz
   ·rw [e];exact hy
   ·exact h.1 z hz
  ·rw [if_neg hy,List.pairwise_cons,List.pairwise_cons]
   have hx:=(ht y (by simp)).resolve_left hy
   refine ⟨fun z hz=>?_,h⟩
   rcases List.mem_cons.1 hz with e|hz
   ·rw [e];exact hx
   ·exact tr _ _ _ hx (h.1 z hz)
def qE (l:List ByteArray) (s:ByteArray):List ByteArray:=if l.any (fun x=>x.toList == s.toList) then l else fR cT l s
def cG (l:List ByteArray):List ByteArray:=l.foldl qE []
theorem DX (l:List ByteArray) (s:ByteArray) (h:l.Pairwise NLt):(qE l s).Pairwise NLt∧∀z,z∈qE l s↔z=s∨z∈l:=by
 unfold qE
 by_cases hs:l.any (fun x=>x.toList == s.toList)=true
 ·rw [if_pos hs]
  refine ⟨h,fun z=>⟨fun hz=>.inr hz,?_⟩⟩
  rintro (e|hz)
  ·obtain ⟨x,hx,e2⟩:=List.any_eq_true.1 hs
   rw [beq_iff_eq] at e2
   rw [e,← fJ e2];exact hx
  ·exact hz
 ·rw [if_neg hs]
  refine ⟨rU NLt.trans s l h (fun y hy=>NLt.total (fun e=>hs ?_)),fun z=>nz cT s z l⟩
  exact List.any_eq_true.2 ⟨y,hy,by rw [e];simp⟩
theorem vT (l:List ByteArray):∀a:List ByteArray,a.Pairwise NLt→(l.foldl qE a).Pairwise NLt∧∀z,z∈l.foldl qE a↔z∈l∨z∈a:=by
 induction l with
 | nil=>intro a h;exact ⟨h,fun z=>by simp⟩
 | cons s l ih=>
  intro a h
  obtain ⟨h1,h2⟩:=DX a s h
  obtain ⟨h3,h4⟩:=ih _ h1
  refine ⟨h3,fun z=>?_⟩
  rw [List.foldl_cons,h4,h2,List.mem_cons]
  constructor
  ·rintro (h|h|h) <;> simp [h]
  ·rintro ((h|h)|h) <;> simp [h]
theorem rL (l:List ByteArray):(cG l).Pairwise NLt:=(vT l [] List.Pairwise.nil).1
theorem zJ (l:List ByteArray) (z:ByteArray):z∈cG l↔z∈l:=by
 have:=(vT l [] List.Pairwise.nil).2 z
 unfold cG;rw [this];simp
theorem vi {l s:List ByteArray} (h:s.Pairwise NLt) (hm:∀z,z∈s↔z∈l):cG l=s:=AA NLt.irr NLt.trans _ _ (rL l) h (fun z=>by rw [zJ,hm])
theorem ld {l:List ByteArray} (h:l.Pairwise NLt):cG l=l:=vi h (fun _=>Iff.rfl)
end Go.Proofs.YtacafmejcdgboaaGreatDoor
namespace Go.Proofs.YtacafmejcdgboaaGreatDoor
open Go.RowKit
set_option linter.unusedVariables false
set_option linter.unusedSimpArgs false
def jg (l:List ByteArray) (s:ByteArray):Int:=if l.any (fun x=>x.toList == s.toList) then (l.findIdx (fun x=>x.toList == s.toList):Int) else -1
def wLt (x y:Wr):Bool:=cT x.name y.name
def bG (a b:List Wr):List Wr:=b.foldl (fR wLt) a
def hM (a b:List ByteArray):Bool:=a.all fun s=>!b.any fun x=>x.toList == s.toList
def idB (names:List ByteArray):Big:=⟨0,[],[],0,names,names.mapIdx fun i s=>⟨s,i⟩⟩
def ew:Big:=⟨0,[],[],0,[],[]⟩
def lJ (i:Nat):ByteArray:=⟨#[122,UInt8.ofNat (97+i)]⟩
def kF (outer:List ByteArray) (i:Nat):Bool:=!outer.any (fun x=>x.toList == (lJ i).toList)
def bD (outer:List ByteArray) (n:Nat):List ByteArray:=(((List.range 26).filter (kF outer)).map lJ).take n
def ky (r:Big) (ns:List Int) (p:Int):Int:=atI (bq r (cX ns p)) 0
end Go.Proofs.YtacafmejcdgboaaGreatDoor
namespace Go.Proofs.YtacafmejcdgboaaGreatDoor
open Go.RowKit
set_option linter.unusedVariables false
set_option linter.unusedSimpArgs false
def eL (a:Int) (n:Nat):List Int:=(List.range n).map fun (i:Nat)=>a+i
def cV (a:Int) (n:Nat):List Int:=(List.range n).map fun (i:Nat)=>-1 - a - i
theorem xi (a:Int) (n:Nat):eL a (n+1)=eL a n++[a+n]:=by unfold eL;rw [List.range_succ,List.map_append];rfl
theorem wH (a:Int) (n:Nat):cV a (n+1)=cV a n++[-1 - a - n]:=by unfold cV;rw [List.range_succ,List.map_append];rfl
theorem ey (a:Int) (n:Nat):(eL a n).length=n:=by unfold eL;simp
theorem kZ (a:Int) (n:Nat):(cV a n).length=n:=by unfold cV;simp
theorem tu (n:Int):∀(l:List Int) (i:Nat) (h:i<l.length),l[i]=n→(l.take i).any (fun x=>n == x)=false→cX l n=(i:Int):=by
 intro l i h e hno
 unfold cX
 rw [if_pos (cz.2 (by rw [← e];exact List.getElem_mem h))]
 congr 1
 have hsp:l=l.take i++n :: l.drop (i+1):=by rw [← e,List.getElem_cons_drop,List.take_append_drop]
 have hnm:n ∉ l.take i:=fun hm=>by
  have:=List.any_eq_false.1 hno n hm
  simp at this
 rw [hsp,List.idxOf_append,if_neg hnm,List.idxOf_cons_self,List.length_take]
 omega
attribute [local irreducible] inR jA aw eq gX eL cV cX jg
end Go.Proofs.YtacafmejcdgboaaGreatDoor
namespace Go.Proofs.YtacafmejcdgboaaGreatDoor
open Go.RowKit
set_option linter.unusedVariables false
set_option linter.unusedSimpArgs false
theorem ml (l:List ByteArray) (s:ByteArray) : -1≤jg l s∧jg l s<(l.length:Int)+1:=by
 unfold jg
 split
 ·have:=List.findIdx_le_length (p:=fun x:ByteArray=>x.toList == s.toList) (xs:=l)
  omega
 ·omega
theorem qi (l:List ByteArray) (s:ByteArray):decide (0≤jg l s)=l.any (fun x=>x.toList == s.toList):=by
 unfold jg
 by_cases h:l.any (fun x=>x.toList == s.toList)=true
 ·rw [if_pos h,h];simp
 ·rw [if_neg h];rw [Bool.not_eq_true] at h;rw [h];rfl
def dm (names:List ByteArray) (edges:Int) (outer:List ByteArray):List Int:=names.map fun s=>edges+jg outer s
theorem tx {names:List ByteArray} (edges:Int) (outer:List ByteArray) (i:Nat) (h:i<names.length):dm (names.take (i+1)) edges outer=dm (names.take i) edges outer++[edges+jg outer names[i]]:=by
 unfold dm;rw [List.take_succ_eq_append_getElem h,List.map_append];rfl
def upF (by':Int) (ps:List Int) (p:Int):Int:=if p<0 then atI ps (-1 - p) else p+by'
def dq (by':Int) (ps sites:List Int):List Int:=sites.map (upF by' ps)
def CM (by':Int) (ps:List Int) (p:Int):Prop:=(p<0∧-1 - p<(ps.length:Int))∨(0≤p∧p≤1000)
attribute [local irreducible] jg dm dq
end Go.Proofs.YtacafmejcdgboaaGreatDoor
