/-
  Walks: the reference's bigraphs, rules and sortings in memory of their own.
-/
import Derived.Test.YtccjepndhlobpaaGreatDoorV33
import Derived.Test.YtccjepndhlobpaaGreatDoorCA
import Derived.Test.YtccjepndhlobpaaGreatDoorV27
namespace Go.Proofs.YtccjepndhlobpaaGreatDoor
open Go.RowKit
set_option linter.unusedVariables false
set_option linter.unusedSimpArgs false
set_option maxRecDepth 100000
set_option maxHeartbeats 6400000
/-- The numbers below one. -/
def idL (n:Nat):List Int:=(List.range n).map (fun k:Nat=>(k:Int))
theorem idL_succ (n:Nat):idL (n+1)=idL n++[(n:Int)]:=by unfold idL;rw [List.range_succ,List.map_append];rfl
theorem idL_len (n:Nat):(idL n).length=n:=by unfold idL;simp
theorem idL_get {n i:Nat} (h:i<n):(idL n)[i]? = some (i:Int):=by unfold idL;simp [h]
theorem idL_getD {n:Nat} {p:Int} (h0:0≤p) (h:p<n):(idL n).getD p.toNat 0=p:=by
 rw [List.getD_eq_getElem?_getD,idL_get (show p.toNat<n by omega)]
 simp only [Option.getD_some]
 omega
/-- What a bigraph must be so that it can be copied by numbers. -/
structure OwnOk (b:Big):Prop where
 par:∀i (h:i<b.nodes.length),(b.nodes[i]).parent<b.nodes.length
 site:∀p∈b.sites,p<b.nodes.length
 link:∀i (h:i<b.nodes.length),∀l∈(b.nodes[i]).links,0≤l
 inner:∀x∈b.inner,0≤x.link
 edge:b.edges≤1000
theorem underB_lt {sig:List Ctl} {b:Big} {p below:Int} (h:underB sig b p below=true) (hb:0≤below):p<below∨p<0:=by
 unfold underB at h
 split at h
 ·right;assumption
 ·left;simp at h;exact h.1
theorem linkB_nn {b:Big} {l:Int} (h:linkB b l=true):0≤l:=(inR_le h).1
theorem own_of {sig:List Ctl} {b:Big} (h:bigB sig b=true):OwnOk b:=by
 obtain ⟨h1,h2,h3,h4⟩:=bigB_parts h
 refine ⟨fun i hi=>?_,fun p hp=>?_,fun i hi l hl=>?_,fun x hx=>?_,?_⟩
 ·have:=par_lt h i hi
  omega
 ·have:=List.all_eq_true.1 h3 p hp
  rcases underB_lt this (by omega) with h|h <;> omega
 ·have:=(all_range_iff _ _).1 h2 i hi
  unfold nodeOk at this
  rw [List.getElem?_eq_getElem hi] at this
  simp only [Bool.and_eq_true,List.all_eq_true] at this
  exact linkB_nn (this.2.2.2 l hl)
 ·exact linkB_nn (List.all_eq_true.1 h4 x hx)
 ·have:=inR_le (headB_parts h1).2.2.2.2.1
  omega
theorem mov_id {n:Nat} {p:Int} (h:p<n):movI (idL n) p=p:=by
 unfold movI
 split
 ·rfl
 ·exact idL_getD (by omega) h
theorem tie_id {e l:Int} (h:0≤l):tieI e (idL e.toNat) l=l:=by
 unfold tieI
 split
 ·rfl
 ·exact idL_getD h (by omega)
theorem map_id_of {α:Type} {f:α→α} {l:List α} (h:∀x∈l,f x=x):l.map f=l:=by
 induction l with
 | nil=>rfl
 | cons x l ih=>rw [List.map_cons,h x (List.mem_cons_self ..),ih (fun y hy=>h y (List.mem_cons_of_mem _ hy))]
theorem ren_id {b:Big} (ok:OwnOk b) (i:Nat) (h:i<b.nodes.length):renN b (idL b.nodes.length) (idL b.edges.toNat) b.nodes[i]=b.nodes[i]:=by
 unfold renN
 rw [mov_id (ok.par i h),map_id_of (fun l hl=>tie_id (ok.link i h l hl))]
theorem renB_id {b:Big} (ok:OwnOk b):renB b (idL b.nodes.length) (idL b.edges.toNat) b.nodes=b:=by
 unfold renB
 rw [map_id_of (fun p hp=>mov_id (ok.site p hp)),map_id_of (fun x hx=>by rw [tie_id (ok.inner x hx)])]
theorem renOk_id {b:Big} (ok:OwnOk b):RenOk b (idL b.nodes.length) (idL b.edges.toNat) b.nodes:=by
 refine ⟨rfl,fun i h=>⟨i,idL_get h,?_⟩,fun j h=>⟨j,h,idL_get h⟩,fun i h=>?_,fun p h=>?_,ok.link,ok.inner,?_⟩
 ·rw [ren_id ok i h];exact List.getElem?_eq_getElem h
 ·rw [idL_len];exact ok.par i h
 ·rw [idL_len];exact ok.site p h
 ·rw [idL_len];omega
theorem c_spec_l2Own (lo hi:Nat) (cs:List Value) (b:Big) (w:World) (h:BigP lo hi w cs b) (hwt:wtBig b≤1048576) (ok:OwnOk b) :
 Calls Tryz.prog 131 #[.agg cs.toArray] w fun e w'=>∃v,e=.returned v∧RBig b v w.heap.size w'.heap.size w'∧Ext w w':=by
 have hw:wtBig b=wtL wtNd b.nodes+b.sites.length+wtL wtStr b.outer+wtL wtWr b.inner:=rfl
 have hw1:b.nodes.length≤wtL wtNd b.nodes:=by unfold wtL;omega
 have hed:=ok.edge
 obtain ⟨ii,hii,hn0,hn1,hn2⟩:=info_parts infoInt
 have HH:=h
 obtain ⟨_,_,_,_,rfl,r1,r2,⟨a1,k1,rfl,g1,g2,g3,_⟩,⟨a2,k2,rfl,_⟩,⟨a4,k4,rfl,_⟩,⟨a5,k5,rfl,_⟩⟩:=h
 unfold maxLen at g2
 obtain ⟨W0,hW0,hbx,hx0,hz⟩:=box_facts w [.int .i64 b.roots,.slice a1 b.nodes.length k1,.slice a2 b.sites.length k2,.int .i64 b.edges,.slice a4 b.outer.length k4,.slice a5 b.inner.length k5] 44
 obtain ⟨W1,hW1,hby,hx1,hy⟩:=box_facts W0 [.int .i64 0,.slice none 0 0,.slice none 0 0,.int .i64 0,.slice none 0 0,.slice none 0 0] 44
 have hX1:=hx0.trans hx1
 have p0:=hx1.keep (hbx 0 _ rfl).1;have p1:=hx1.keep (hbx 1 _ rfl).1;have p2:=hx1.keep (hbx 2 _ rfl).1;have p3:=hx1.keep (hbx 3 _ rfl).1;have p4:=hx1.keep (hbx 4 _ rfl).1;have p5:=hx1.keep (hbx 5 _ rfl).1
 have hz1':W1.heap.size=w.heap.size+1+1:=by omega
 have hW1s:w.heap.size<W0.heap.size∧W0.heap.size<W1.heap.size:=by omega
 replace HH:=BigP.keeps _ _ _ _ _ _ (Same.ext hX1) HH
 have row0:RowL 1 IntP 3 W1.heap.size ((W1.alloc (.cells #[] 3)).alloc (.cells #[] 3)) (.slice (some ⟨W1.heap.size,0,none⟩) 0 0) []:=(RowL.made (Nat.le_refl _)).ext IntP.keeps ((Ext.refl _).alloc _)
 have row1:RowL 1 IntP 3 W1.heap.size ((W1.alloc (.cells #[] 3)).alloc (.cells #[] 3)) (.slice (some ⟨W1.heap.size+1,0,none⟩) 0 0) []:=by
  have:=RowL.made (P:=IntP) (size:=1) (e:=3) (base:=W1.heap.size) (w:=W1.alloc (.cells #[] 3)) (by simp)
  simpa using this
 have hxA:Ext W1 ((W1.alloc (.cells #[] 3)).alloc (.cells #[] 3)):=((Ext.refl W1).alloc _).alloc _
 go_enter Tryz.func131,Tryz.ntmps131
 clear hbx hz hy hz1'
 go_wp2_with fail
 (try rw [hW1])
 clear hW0 hW1
 go_loopw [5,3] (fun c v wr=>∃i:Nat,c=.int .i64 i∧i≤b.nodes.length∧RowL 1 IntP 3 W1.heap.size wr v (idL i)∧(∀g,v.ownBlock=some g→g≠W1.heap.size+1)∧RowL 1 IntP 3 W1.heap.size wr (.slice (some ⟨W1.heap.size+1,0,none⟩) 0 0) []∧Ext W1 wr∧W1.heap.size+1<wr.heap.size) (fun c _ _=>b.nodes.length - (intOf c).toNat)
 case atStart=>exact ⟨0,rfl,Nat.zero_le _,row0,fun g hg=>by cases hg;show W1.heap.size≠_;omega,row1,hxA,by simp⟩
 case round=>
  clear row0 row1 hxA
  obtain ⟨i,rfl,hi',hrow,hne,hrow1,hx,hzr⟩:=hrel
  obtain ⟨va,vn,vk,rfl⟩:=hrow.form3L
  have kp1:=hx.keep p1
  by_cases hlt:i<b.nodes.length
  ·have hin:(idL i).length<100000000:=by rw [idL_len];omega
   have hzx:=Below.size hx
   go_wp2_with (at_builtin;refine wpList_append_row2 IntP.keeps rfl (.tmp 16) (.tmp 18) 23 rfl (W1.heap.size) 3 ii _ 8 Tryz.underlying23 hii hn0 hn1 hn2 rfl (by decide) _ _ (by rfl) (hrow.ext IntP.keeps xw) ⟨_,0,none⟩ 1 [.int .i64 i] rfl rfl (one_cell (by simp)) (by simp [Value.oneCell']) (W1.heap.size) (W1.heap.size) (Nat.le_refl _) (by first|omega|(simp;omega)) (fun g hg=>.inr (hrow.block g hg).1) ((i:Int)) ⟨rfl,i64_nat (by omega)⟩ (by first|omega|(simp;omega)) (by decide) (by first|omega|(simp;omega)) ?_;intro v3 w3 row3 ext3 gro3 own3)
   go_roundw
   case rel=>
    refine ⟨i+1,rfl,by omega,by rw [idL_succ];exact row3,fun g hg=>?_,(hrow1.ext IntP.keeps ((Ext.refl wr).alloc _)).kept IntP.flat gro3 (fun g hg=>?_),ext3 W1 (hx.alloc _) (Nat.le_refl _),by have:=gro3.size;simp only [World.size_alloc] at this;omega⟩
    ·rcases own3 with h|h
     ·exact hne g (by rw [← h];exact hg)
     ·rw [h] at hg;cases hg;simp only [World.size_alloc];omega
    ·cases hg;intro e;exact hne _ e rfl
   all_goals (simp only [intOf];omega)
  ·have e:i=b.nodes.length:=by omega
   subst e
   obtain ⟨W4,hW4⟩:∃W4,W4=wr:=⟨_,rfl⟩
   subst hW4
   go_wp2
   go_loopw [6,4] (fun c v wr=>∃i:Nat,c=.int .i64 i∧i≤b.edges.toNat∧RowL 1 IntP 3 W1.heap.size wr v (idL i)∧(∀g,v.ownBlock=some g→g=W1.heap.size+1∨W4.heap.size≤g)∧RowL 1 IntP 3 W1.heap.size wr (.slice va vn vk) (idL b.nodes.length)∧Ext W1 wr∧W4.heap.size≤wr.heap.size) (fun c _ _=>b.edges.toNat - (intOf c).toNat)
   case atStart=>exact ⟨0,rfl,Nat.zero_le _,hrow1,fun g hg=>by cases hg;exact .inl rfl,hrow,hx,Nat.le_refl _⟩
   case round=>
    have hb3:∀g,(Value.slice va vn vk).ownBlock=some g→g<W4.heap.size:=fun g hg=>(hrow.block g hg).2
    have hzr4:=hzr
    clear hrow hrow1 hx hzr kp1
    obtain ⟨i,rfl,hi',hrow,hne2,hrow1,hx,hzr⟩:=hrel
    obtain ⟨ua,un,uk,rfl⟩:=hrow.form3L
    have kp3:=hx.keep p3
    by_cases hlt:i<b.edges.toNat
    ·have hin:(idL i).length<100000000:=by rw [idL_len];omega
     have hzx:=Below.size hx
     have hlt2:(i:Int)<b.edges:=by omega
     go_wp2_with (at_builtin;refine wpList_append_row2 IntP.keeps rfl (.tmp 26) (.tmp 28) 23 rfl (W1.heap.size) 3 ii _ 8 Tryz.underlying23 hii hn0 hn1 hn2 rfl (by decide) _ _ (by rfl) (hrow.ext IntP.keeps xw) ⟨_,0,none⟩ 1 [.int .i64 i] rfl rfl (one_cell (by simp)) (by simp [Value.oneCell']) (W1.heap.size) (W1.heap.size) (Nat.le_refl _) (by first|omega|(simp;omega)) (fun g hg=>.inr (hrow.block g hg).1) ((i:Int)) ⟨rfl,i64_nat (by omega)⟩ (by first|omega|(simp;omega)) (by decide) (by first|omega|(simp;omega)) ?_;intro v3 w3 row3 ext3 gro3 own3)
     go_roundw
     case rel=>
      refine ⟨i+1,rfl,by omega,by rw [idL_succ];exact row3,fun g hg=>?_,(hrow1.ext IntP.keeps ((Ext.refl wr).alloc _)).kept IntP.flat gro3 (fun g hg=>?_),ext3 W1 (hx.alloc _) (Nat.le_refl _),by have:=gro3.size;simp only [World.size_alloc] at this;omega⟩
      ·rcases own3 with h|h
       ·exact hne2 g (by rw [← h];exact hg)
       ·rw [h] at hg;cases hg;simp only [World.size_alloc];omega
      ·intro e
       have h1:=hne g hg
       have h2:=hb3 g hg
       rcases hne2 g e with h|h <;> omega
     all_goals (simp only [intOf];omega)
    ·have e:i=b.edges.toNat:=by omega
     subst e
     have hlt2:¬(((b.edges.toNat:Nat):Int)<b.edges):=by omega
     have s0:=hx.keep p0;have s1:=hx.keep p1;have s2:=hx.keep p2;have s3:=hx.keep p3;have s4:=hx.keep p4;have s5:=hx.keep p5
     have hv1:=hrow1.toSlV IntP.widens (Nat.le_refl _)
     have hv2:=hrow.toSlV IntP.widens (Nat.le_refl _)
     have HE:=Lib.hid (renB_id ok)
     clear hrow hrow1
     have hX2:=hX1.trans hx
     go_wp2_with fail
     refine (c_spec_l2Renumber lo hi _ _ _ _ _ b _ _ _ _ b.nodes _ (BigP.keeps _ _ _ _ _ _ (Same.ext hx) HH) hv1 hv2 hwt (renOk_id ok)).mono ?_
     rintro e W5 ⟨_,rfl,⟨ds,rfl,hB⟩,hb⟩
     rw [HE.out] at hB
     have hB':=hB
     obtain ⟨_,_,_,_,rfl,_,_,⟨x1,y1,rfl,_⟩,⟨x2,y2,rfl,_⟩,⟨x4,y4,rfl,_⟩,⟨x5,y5,rfl,_⟩⟩:=hB
     have hRB:=(hby.ext hx).ext hb
     have hz5:=Below.size hb
     have hz6:=Below.size hx
     go_wp2_with (refine wpList_store_box rfl 44 (.tmp 2) (.tmp 33) rfl W0.heap.size 0 [.int .i64 b.roots,.slice x1 b.nodes.length y1,.slice x2 b.sites.length y2,.int .i64 b.edges,.slice x4 b.outer.length y4,.slice x5 b.inner.length y5] _ rfl rfl hRB (by simp) infoBigM (by simp [Value.oneCell']) ?_;intro W6 hB6 hgr hsz6)
     replace hB6:BoxAt W6 W0.heap.size [.int .i64 b.roots,.slice x1 b.nodes.length y1,.slice x2 b.sites.length y2,.int .i64 b.edges,.slice x4 b.outer.length y4,.slice x5 b.inner.length y5]:=hB6
     have z0:=(hB6 0 _ rfl).1;have z1:=(hB6 1 _ rfl).1;have z2:=(hB6 2 _ rfl).1;have z3:=(hB6 3 _ rfl).1;have z4:=(hB6 4 _ rfl).1;have z5:=(hB6 5 _ rfl).1
     have hx6:=(hX2.trans hb).own hgr (fun g hg=>by cases hg;omega)
     go_wp2_with fail
     refine bodyPost_ret (v:=.agg #[.int .i64 b.roots,.slice x1 b.nodes.length y1,.slice x2 b.sites.length y2,.int .i64 b.edges,.slice x4 b.outer.length y4,.slice x5 b.inner.length y5]) ?_ rfl ⟨_,rfl,⟨[.int .i64 b.roots,.slice x1 b.nodes.length y1,.slice x2 b.sites.length y2,.int .i64 b.edges,.slice x4 b.outer.length y4,.slice x5 b.inner.length y5],rfl,?_⟩,hx6⟩
     ·simp [results,Tryz.results131,go_sem,z0,z1,z2,z3,z4,z5]
     ·exact BigP.widens _ _ _ _ _ _ _ (show w.heap.size≤wr.heap.size by omega) (by omega) (BigP.keeps _ _ _ _ _ _ (Same.grown hgr (.inl (by omega))) hB')
theorem infoSrtA:(Tryz.prog.info? 39).map (·.size)=some 5:=by kernel_rfl
def RSrt (s:Srt):Value→Nat→Nat→World→Prop:=fun v l u w=>∃ds,v=.agg ds.toArray∧SrtP l u w ds s
theorem RSrt.stays (s:Srt):Stays (RSrt s):=fun v l u w w' ⟨ds,h1,h2⟩ hx=>⟨ds,h1,SrtP.keeps _ _ _ _ _ _ (Same.ext hx) h2⟩
theorem c_spec_l13Sorting (lo hi:Nat) (cs:List Value) (r:Srt) (w:World) (h:SrtP lo hi w cs r) (hwt:wtSrt r≤1048576) :
 Calls Tryz.prog 129 #[.agg cs.toArray] w fun e w'=>∃v,e=.returned v∧RSrt r v w.heap.size w'.heap.size w'∧Ext w w':=by
 have hws:wtSrt r=r.tops.length+wtL wtRow r.nest+wtL wtRow r.sorts+r.most.length+r.apart.length:=rfl
 obtain ⟨i0,hi0,hz0,hz1,hz2⟩:=info_parts infoPair
 obtain ⟨v0,v1,v2,v3,v4,rfl,E0,E1,E2,E3,E4⟩:=h
 obtain ⟨a0,k0,rfl⟩:∃a k,v0=.slice a r.tops.length k:=by (obtain ⟨a,k,rfl,_⟩:=E0;exact ⟨a,k,rfl⟩)
 obtain ⟨a1,k1,rfl⟩:∃a k,v1=.slice a r.nest.length k:=by (obtain ⟨a,k,rfl,_⟩:=E1;exact ⟨a,k,rfl⟩)
 obtain ⟨a2,k2,rfl⟩:∃a k,v2=.slice a r.sorts.length k:=by (obtain ⟨a,k,rfl,_⟩:=E2;exact ⟨a,k,rfl⟩)
 obtain ⟨a3,k3,rfl⟩:∃a k,v3=.slice a r.most.length k:=by (obtain ⟨a,k,rfl,_⟩:=E3;exact ⟨a,k,rfl⟩)
 obtain ⟨a4,k4,rfl⟩:∃a k,v4=.slice a r.apart.length k:=by (obtain ⟨a,k,rfl,_⟩:=E4;exact ⟨a,k,rfl⟩)
 obtain ⟨W0,hW0,hbx,hx0,hz⟩:=box_facts w [.slice a0 r.tops.length k0,.slice a1 r.nest.length k1,.slice a2 r.sorts.length k2,.slice a3 r.most.length k3,.slice a4 r.apart.length k4] 39
 obtain ⟨W1,hW1,hby,hx1,hy⟩:=box_facts W0 [.slice none 0 0,.slice none 0 0,.slice none 0 0,.slice none 0 0,.slice none 0 0] 39
 have hX1:=hx0.trans hx1
 have p0:=hx1.keep (hbx 0 _ rfl).1;have p1:=hx1.keep (hbx 1 _ rfl).1;have p2:=hx1.keep (hbx 2 _ rfl).1;have p3:=hx1.keep (hbx 3 _ rfl).1;have p4:=hx1.keep (hbx 4 _ rfl).1
 have hs0:w.heap.size<W0.heap.size:=by omega
 have hs1:W0.heap.size<W1.heap.size:=by omega
 replace E0:=SlV.ext IntP.keeps E0 hX1;replace E1:=SlV.ext RowP.keeps E1 hX1;replace E2:=SlV.ext RowP.keeps E2 hX1;replace E3:=SlV.ext IntP.keeps E3 hX1;replace E4:=SlV.ext PairP.keeps E4 hX1
 have K:=(((((Kn.none (W:=W1)).cell p0).cell p1).cell p2).cell p3).cell p4
 clear hbx hz hy p0 p1 p2 p3 p4
 go_enter Tryz.func129,Tryz.ntmps129
 go_wp2_with fail
 (try rw [hW1])
 clear hW0 hW1
 refine region_mono 17 [17] (by kernel_rfl) (by kernel_rfl) ?_
 refine mP ?_
 refine mL K ?_
 refine mCall 2 (ROwn 1 IntP r.tops) 193 (ROwn.stays IntP.keepsO _) (fun _=>#[.slice a0 r.tops.length k0]) (fun vs l u w hx hf=>c_spec_l1Own lo hi _ r.tops w (E0.ext IntP.keeps hx) (by omega)) ?_
 refine mP ?_
 refine mL K ?_
 refine mCall 5 (ROwn 1 RowO r.nest) 194 (ROwn.stays RowO.keepsO _) (fun _=>#[.slice a1 r.nest.length k1]) (fun vs l u w hx hf=>c_spec_l7Table lo hi _ r.nest w (E1.ext RowP.keeps hx) (by omega)) ?_
 refine mP ?_
 refine mL K ?_
 refine mCall 8 (ROwn 1 RowO r.sorts) 194 (ROwn.stays RowO.keepsO _) (fun _=>#[.slice a2 r.sorts.length k2]) (fun vs l u w hx hf=>c_spec_l7Table lo hi _ r.sorts w (E2.ext RowP.keeps hx) (by omega)) ?_
 refine mP ?_
 refine mL K ?_
 refine mCall 11 (ROwn 1 IntP r.most) 193 (ROwn.stays IntP.keepsO _) (fun _=>#[.slice a3 r.most.length k3]) (fun vs l u w hx hf=>c_spec_l1Own lo hi _ r.most w (E3.ext IntP.keeps hx) (by omega)) ?_
 refine mNew 12 166 ?_
 refine mP ?_
 refine mL K ?_
 refine mCopy 15 PairP.flat PairP.ones 12 (.tmp 15) (.tmp 17) 25 166 i0 _ 16 r.apart lo hi _ E4 (by omega) hi0 hz0 hz1 hz2 ?_
 refine mF 16 (fun vs=>.agg #[vs 2,vs 5,vs 8,vs 11,vs 15]) ?_ ?_
 ·intro vs l u w hx hf
  have h2:=hf.at 2
  have h5:=hf.at 5
  have h8:=hf.at 8
  have h11:=hf.at 11
  have h15:=hf.at 15
  obtain ⟨_,_,h2,_⟩:=h2
  obtain ⟨_,_,h5,_⟩:=h5
  obtain ⟨_,_,h8,_⟩:=h8
  obtain ⟨_,_,h11,_⟩:=h11
  obtain ⟨_,_,h15,_⟩:=h15
  rw [h2,h5,h8,h11,h15]
  go_simp
 intro vs l u W2 hk
 have hx2:=hk.ext
 obtain ⟨h2,b2⟩:=hk.at 2
 obtain ⟨h5,b5⟩:=hk.at 5
 obtain ⟨h8,b8⟩:=hk.at 8
 obtain ⟨h11,b11⟩:=hk.at 11
 obtain ⟨h15,b15⟩:=hk.at 15
 obtain ⟨x0,y0,e2,_⟩:=id h2
 obtain ⟨x1,y1,e5,_⟩:=id h5
 obtain ⟨x2,y2,e8,_⟩:=id h8
 obtain ⟨x3,y3,e11,_⟩:=id h11
 obtain ⟨x4,y4,e15,_⟩:=id h15
 simp only [e2,e5,e8,e11,e15]
 rw [e2] at h2;rw [e5] at h5;rw [e8] at h8;rw [e11] at h11;rw [e15] at h15
 have hS:SrtP W1.heap.size W2.heap.size W2 [.slice x0 r.tops.length y0,.slice x1 r.nest.length y1,.slice x2 r.sorts.length y2,.slice x3 r.most.length y3,.slice x4 r.apart.length y4] r:=⟨_,_,_,_,_,rfl,(IntsO.toV h2).widens IntP.widens b2.1 b2.2.2,(RowsO.toV h5).widens RowP.widens b5.1 b5.2.2,(RowsO.toV h8).widens RowP.widens b8.1 b8.2.2,(IntsO.toV h11).widens IntP.widens b11.1 b11.2.2,(PairsO.toV h15).widens PairP.widens b15.1 b15.2.2⟩
 have hX2:=hX1.trans hx2
 have hRB:=hby.ext hx2
 have hzx:=Below.size hx2
 clear hk K e2 e5 e8 e11 e15 h2 h5 h8 h11 h15 b2 b5 b8 b11 b15
 simp only [picked,List.filterMap_cons,List.filterMap_nil]
 go_simp
 refine wpList_store_box rfl 39 (.tmp 2) (.tmp 19) rfl W0.heap.size 0 [.slice x0 r.tops.length y0,.slice x1 r.nest.length y1,.slice x2 r.sorts.length y2,.slice x3 r.most.length y3,.slice x4 r.apart.length y4] _ rfl rfl hRB (by simp) infoSrtA (by simp [Value.oneCell']) ?_
 intro W3 hB3 hgr hs3
 replace hB3:BoxAt W3 W0.heap.size [.slice x0 r.tops.length y0,.slice x1 r.nest.length y1,.slice x2 r.sorts.length y2,.slice x3 r.most.length y3,.slice x4 r.apart.length y4]:=hB3
 have z0:=(hB3 0 _ rfl).1;have z1:=(hB3 1 _ rfl).1;have z2:=(hB3 2 _ rfl).1;have z3:=(hB3 3 _ rfl).1;have z4:=(hB3 4 _ rfl).1
 have hx3:=hX2.own hgr (fun g hg=>by cases hg;omega)
 go_wp2
 refine bodyPost_ret (v:=.agg #[.slice x0 r.tops.length y0,.slice x1 r.nest.length y1,.slice x2 r.sorts.length y2,.slice x3 r.most.length y3,.slice x4 r.apart.length y4]) ?_ rfl ⟨_,rfl,⟨[.slice x0 r.tops.length y0,.slice x1 r.nest.length y1,.slice x2 r.sorts.length y2,.slice x3 r.most.length y3,.slice x4 r.apart.length y4],rfl,?_⟩,hx3⟩
 ·simp [results,Tryz.results129,go_sem,z0,z1,z2,z3,z4]
 ·exact SrtP.widens _ _ _ _ _ _ _ (show w.heap.size≤W1.heap.size by omega) (show W2.heap.size≤_ by omega) (SrtP.keeps _ _ _ _ _ _ (Same.grown hgr (.inl (by omega))) hS)
theorem c_spec_l13Rules (lo hi:Nat) (v:Value) (xs:List Rul) (w:World) (h:SlV 13 RulP lo hi w v xs) (hwt:wtL wtRul xs≤1048576) (ok:∀r∈xs,OwnOk r.redex∧OwnOk r.reactum) :
 Calls Tryz.prog 130 #[v] w fun e w'=>∃v',e=.returned v'∧RVal 13 RulP xs v' w.heap.size w'.heap.size w'∧Ext w w':=by
 have hlen:xs.length≤1048576:=by unfold wtL at hwt;omega
 obtain ⟨i0,hi0,hz0,hz1,hz2⟩:=info_parts infoRul
 obtain ⟨a,k,rfl,g1,g2,g3,g4⟩:=h
 unfold maxLen at g2
 have row0:RowL 13 RulP 122 w.heap.size (w.alloc (.cells #[] 122)) (.slice (some ⟨w.heap.size,0,none⟩) 0 0) []:=RowL.made (Nat.le_refl _)
 go_enter Tryz.func130,Tryz.ntmps130
 go_wp2
 go_loopw [4,3] (fun c v wr=>∃i:Nat,c=.int .i64 i∧i≤xs.length∧RowL 13 RulP 122 w.heap.size wr v (xs.take i)∧Ext w wr) (fun c _ _=>xs.length - (intOf c).toNat)
 case atStart=>exact ⟨0,rfl,Nat.zero_le _,row0,(Ext.refl w).alloc _⟩
 case round=>
  clear row0
  obtain ⟨i,rfl,hi',hrow,hx⟩:=hrel
  obtain ⟨ra,rn,rk,rfl⟩:=hrow.form3L
  by_cases hlt:i<xs.length
  ·have HT:=Lib.hid (List.take_succ_eq_append_getElem hlt)
   have hwn:=wtL_mem wtRul xs xs[i] (List.getElem_mem hlt)
   have hwl:wtRul xs[i]=wtBig (xs[i]).redex+wtBig (xs[i]).reactum+(xs[i]).copies.length:=rfl
   have hln:(xs.take i).length<100000000:=by rw [List.length_take];omega
   obtain ⟨ok1,ok2⟩:=ok _ (List.getElem_mem hlt)
   rcases g4 with g4|⟨bn,on,rfl,nb1,nb2,g4⟩
   ·rw [g4] at hlt;simp at hlt
   obtain ⟨cs,hl,⟨c1,c2,cv,rfl,F1,F2,F3⟩,hc⟩:=g4 i hlt
   obtain ⟨_,_,_,_,rfl,_,_,⟨fa1,fk1,rfl,_⟩,⟨fa2,fk2,rfl,_⟩,⟨fa4,fk4,rfl,_⟩,⟨fa5,fk5,rfl,_⟩⟩:=id F1
   obtain ⟨_,_,_,_,rfl,_,_,⟨ga1,gk1,rfl,_⟩,⟨ga2,gk2,rfl,_⟩,⟨ga4,gk4,rfl,_⟩,⟨ga5,gk5,rfl,_⟩⟩:=id F2
   obtain ⟨fa9,fk9,rfl,_⟩:=id F3
   have q0:=hx.keep (hc 0 _ rfl);have q1:=hx.keep (hc 1 _ rfl);have q2:=hx.keep (hc 2 _ rfl);have q3:=hx.keep (hc 3 _ rfl);have q4:=hx.keep (hc 4 _ rfl);have q5:=hx.keep (hc 5 _ rfl);have q6:=hx.keep (hc 6 _ rfl);have q7:=hx.keep (hc 7 _ rfl);have q8:=hx.keep (hc 8 _ rfl);have q9:=hx.keep (hc 9 _ rfl);have q10:=hx.keep (hc 10 _ rfl);have q11:=hx.keep (hc 11 _ rfl);have q12:=hx.keep (hc 12 _ rfl)
   rw [Nat.add_zero] at q0
   clear g4 hc
   replace F1:=BigP.keeps _ _ _ _ _ _ (Same.ext hx) F1
   replace F2:=BigP.keeps _ _ _ _ _ _ (Same.ext hx) F2
   replace F3:=SlV.ext IntP.keeps F3 hx
   go_wp2_with fail
   refine region_till 21 (S:=(fun w'=>Ext wr w')) (by kernel_rfl) ?_ (fun hHeld=>?_)
   ·exact (Ext.refl wr).drew
   refine ttP 21 0 ?_ ?_ ?_;rotate_left;focus (intro w;go_simp;try with_reducible rfl)
   try simp only [Act.put,aput]
   refine ttP 21 1 ?_ ?_ ?_;rotate_left;focus (intro w;go_simp;try with_reducible rfl)
   try simp only [Act.put,aput]
   refine ttP 21 2 ?_ ?_ ?_;rotate_left;focus (intro w;go_simp;try with_reducible rfl)
   try simp only [Act.put,aput]
   refine ttP 21 3 ?_ ?_ ?_;rotate_left;focus (intro w;go_simp;try with_reducible rfl)
   try simp only [Act.put,aput]
   refine ttP 21 4 ?_ ?_ ?_;rotate_left;focus (intro w;go_simp;try with_reducible rfl)
   try simp only [Act.put,aput]
   refine ttY 21 5 ?_ ?_ ?_;rotate_left;focus (intro w hSw;(try dsimp only at hSw);have sq0:=Ext.keep hSw q0;have sq1:=Ext.keep hSw q1;have sq2:=Ext.keep hSw q2;have sq3:=Ext.keep hSw q3;have sq4:=Ext.keep hSw q4;have sq5:=Ext.keep hSw q5;have sq6:=Ext.keep hSw q6;have sq7:=Ext.keep hSw q7;have sq8:=Ext.keep hSw q8;have sq9:=Ext.keep hSw q9;have sq10:=Ext.keep hSw q10;have sq11:=Ext.keep hSw q11;have sq12:=Ext.keep hSw q12;go_simp;try with_reducible rfl)
   try simp only [Act.put,aput]
   refine ttP 21 7 ?_ ?_ ?_;rotate_left;focus (intro w;go_simp;try with_reducible rfl)
   try simp only [Act.put,aput]
   refine ttP 21 8 ?_ ?_ ?_;rotate_left;focus (intro w;go_simp;try with_reducible rfl)
   try simp only [Act.put,aput]
   refine ttP 21 9 ?_ ?_ ?_;rotate_left;focus (intro w;go_simp;try with_reducible rfl)
   try simp only [Act.put,aput]
   refine ttP 21 10 ?_ ?_ ?_;rotate_left;focus (intro w;go_simp;try with_reducible rfl)
   try simp only [Act.put,aput]
   refine ttY 21 11 ?_ ?_ ?_;rotate_left;focus (intro w hSw;(try dsimp only at hSw);have sq0:=Ext.keep hSw q0;have sq1:=Ext.keep hSw q1;have sq2:=Ext.keep hSw q2;have sq3:=Ext.keep hSw q3;have sq4:=Ext.keep hSw q4;have sq5:=Ext.keep hSw q5;have sq6:=Ext.keep hSw q6;have sq7:=Ext.keep hSw q7;have sq8:=Ext.keep hSw q8;have sq9:=Ext.keep hSw q9;have sq10:=Ext.keep hSw q10;have sq11:=Ext.keep hSw q11;have sq12:=Ext.keep hSw q12;go_simp;try with_reducible rfl)
   try simp only [Act.put,aput]
   refine ttP 21 13 ?_ ?_ ?_;rotate_left;focus (intro w;go_simp;try with_reducible rfl)
   try simp only [Act.put,aput]
   refine ttP 21 14 ?_ ?_ ?_;rotate_left;focus (intro w;go_simp;try with_reducible rfl)
   try simp only [Act.put,aput]
   refine ttP 21 15 ?_ ?_ ?_;rotate_left;focus (intro w;go_simp;try with_reducible rfl)
   try simp only [Act.put,aput]
   refine ttP 21 16 ?_ ?_ ?_;rotate_left;focus (intro w;go_simp;try with_reducible rfl)
   try simp only [Act.put,aput]
   refine ttY 21 17 ?_ ?_ ?_;rotate_left;focus (intro w hSw;(try dsimp only at hSw);have sq0:=Ext.keep hSw q0;have sq1:=Ext.keep hSw q1;have sq2:=Ext.keep hSw q2;have sq3:=Ext.keep hSw q3;have sq4:=Ext.keep hSw q4;have sq5:=Ext.keep hSw q5;have sq6:=Ext.keep hSw q6;have sq7:=Ext.keep hSw q7;have sq8:=Ext.keep hSw q8;have sq9:=Ext.keep hSw q9;have sq10:=Ext.keep hSw q10;have sq11:=Ext.keep hSw q11;have sq12:=Ext.keep hSw q12;go_simp;try with_reducible rfl)
   try simp only [Act.put,aput]
   refine anyTill_ready (rs:=[6]) (by kernel_rfl) (by simp) ?_
   refine AllReadyT.cons rfl (by decide) (fun K hK=>?_) AllReadyT.nil
   (try simp only [aput])
   go_simp
   (go_at_call 131;refine (c_spec_l2Own lo hi _ (xs[i]).redex _ (BigP.keeps _ _ _ _ _ _ (Same.ext hHeld) F1) (by omega) ok1).mono ?_;rintro e y6 ⟨_,rfl,⟨ds6,rfl,hC6⟩,hb6⟩;obtain ⟨_,_,_,_,rfl,_,_,⟨ua1,uk1,rfl,_⟩,⟨ua2,uk2,rfl,_⟩,⟨ua4,uk4,rfl,_⟩,⟨ua5,uk5,rfl,_⟩⟩:=id hC6;have hz6:=Below.size hb6;(try simp only [World.size_drew] at hz6 hC6))
   show K _ _
   refine hK.out _ _ (by exact hHeld.trans hb6) (fun hHeld=>?_)
   clear hK K
   try simp only [Act.put,aput]
   refine anyTill_ready (rs:=[12]) (by kernel_rfl) (by simp) ?_
   refine AllReadyT.cons rfl (by decide) (fun K hK=>?_) AllReadyT.nil
   (try simp only [aput])
   go_simp
   (go_at_call 131;refine (c_spec_l2Own lo hi _ (xs[i]).reactum _ (BigP.keeps _ _ _ _ _ _ (Same.ext hHeld) F2) (by omega) ok2).mono ?_;rintro e y12 ⟨_,rfl,⟨ds12,rfl,hC12⟩,hb12⟩;obtain ⟨_,_,_,_,rfl,_,_,⟨va1,vk1,rfl,_⟩,⟨va2,vk2,rfl,_⟩,⟨va4,vk4,rfl,_⟩,⟨va5,vk5,rfl,_⟩⟩:=id hC12;have hz12:=Below.size hb12;(try simp only [World.size_drew] at hz12 hC12);replace hC6:=BigP.keeps _ _ _ _ _ _ (Same.ext hb12) hC6)
   show K _ _
   refine hK.out _ _ (by exact hHeld.trans hb12) (fun hHeld=>?_)
   clear hK K
   try simp only [Act.put,aput]
   refine anyTill_ready (rs:=[18]) (by kernel_rfl) (by simp) ?_
   refine AllReadyT.cons rfl (by decide) (fun K hK=>?_) AllReadyT.nil
   (try simp only [aput])
   go_simp
   (go_at_call 193;refine (c_spec_l1Own lo hi _ (xs[i]).copies _ (F3.ext IntP.keeps hHeld) (by omega)).mono ?_;rintro e y18 ⟨_,rfl,hC18,hb18⟩;obtain ⟨va9,vk9,rfl,_⟩:=id hC18;have hz18:=Below.size hb18;(try simp only [World.size_drew] at hz18 hC18);replace hC6:=BigP.keeps _ _ _ _ _ _ (Same.ext hb18) hC6;replace hC12:=BigP.keeps _ _ _ _ _ _ (Same.ext hb18) hC12)
   show K _ _
   refine hK.out _ _ (by exact hHeld.trans hb18) (fun hHeld=>?_)
   clear hK K
   try simp only [Act.put,aput]
   refine ttP 21 19 ?_ ?_ ?_;rotate_left;focus (intro w;go_simp;try with_reducible rfl)
   try simp only [Act.put,aput]
   refine anyTill_ready (rs:=[20]) (by kernel_rfl) (by simp) ?_
   refine AllReadyT.cons rfl (by decide) (fun K hK=>?_) AllReadyT.nil
   (try simp only [aput])
   go_simp
   (refine alloc_box (cs:=[.int .i64 (xs[i]).redex.roots,.slice ua1 (xs[i]).redex.nodes.length uk1,.slice ua2 (xs[i]).redex.sites.length uk2,.int .i64 (xs[i]).redex.edges,.slice ua4 (xs[i]).redex.outer.length uk4,.slice ua5 (xs[i]).redex.inner.length uk5,.int .i64 (xs[i]).reactum.roots,.slice va1 (xs[i]).reactum.nodes.length vk1,.slice va2 (xs[i]).reactum.sites.length vk2,.int .i64 (xs[i]).reactum.edges,.slice va4 (xs[i]).reactum.outer.length vk4,.slice va5 (xs[i]).reactum.inner.length vk5,.slice va9 (xs[i]).copies.length vk9]) ?_;intro wS hbS hzS hSS)
   show K _ _
   refine hK.out _ _ (by exact hHeld.trans hbS) (fun hHeld=>?_)
   clear hK K
   try simp only [Act.put,aput]
   refine anyTill_tail 21 [22] (by kernel_rfl) (by decide) (by decide) ?_
   simp only [picked,List.filterMap_cons,List.filterMap_nil,List.getElem?_toArray,List.getElem?_cons_succ,List.getElem?_cons_zero]
   show wpList _ _ _ [_,_] _ _
   have hrow2:=hrow.ext RulP.keeps hHeld
   have hx2:=hx.trans hHeld
   have hzx:=Below.size hx
   have hzy:=Below.size hHeld
   have hel:RulP wr.heap.size y18.heap.size wS [.int .i64 (xs[i]).redex.roots,.slice ua1 (xs[i]).redex.nodes.length uk1,.slice ua2 (xs[i]).redex.sites.length uk2,.int .i64 (xs[i]).redex.edges,.slice ua4 (xs[i]).redex.outer.length uk4,.slice ua5 (xs[i]).redex.inner.length uk5,.int .i64 (xs[i]).reactum.roots,.slice va1 (xs[i]).reactum.nodes.length vk1,.slice va2 (xs[i]).reactum.sites.length vk2,.int .i64 (xs[i]).reactum.edges,.slice va4 (xs[i]).reactum.outer.length vk4,.slice va5 (xs[i]).reactum.inner.length vk5,.slice va9 (xs[i]).copies.length vk9] xs[i]:=⟨[.int .i64 (xs[i]).redex.roots,.slice ua1 (xs[i]).redex.nodes.length uk1,.slice ua2 (xs[i]).redex.sites.length uk2,.int .i64 (xs[i]).redex.edges,.slice ua4 (xs[i]).redex.outer.length uk4,.slice ua5 (xs[i]).redex.inner.length uk5],[.int .i64 (xs[i]).reactum.roots,.slice va1 (xs[i]).reactum.nodes.length vk1,.slice va2 (xs[i]).reactum.sites.length vk2,.int .i64 (xs[i]).reactum.edges,.slice va4 (xs[i]).reactum.outer.length vk4,.slice va5 (xs[i]).reactum.inner.length vk5],_,rfl,BigP.widens _ _ _ _ _ _ _ (by omega) (by omega) (BigP.keeps _ _ _ _ _ _ (Same.ext hbS) hC6),BigP.widens _ _ _ _ _ _ _ (by omega) (by omega) (BigP.keeps _ _ _ _ _ _ (Same.ext hbS) hC12),((IntsO.toV hC18).widens IntP.widens (by omega) (Nat.le_refl _)).ext IntP.keeps hbS⟩
   have hsep:∀g,(Value.slice ra rn rk).ownBlock=some g→g<wr.heap.size∨y18.heap.size≤g:=fun g hg=>.inl (hrow.block g hg).2
   go_wp2_with (at_builtin;refine wpList_append_row RulP.keeps rfl (.tmp 12) (.tmp 32) 40 rfl (w.heap.size) 122 i0 _ 248 Tryz.underlying40 hi0 hz0 hz1 hz2 rfl (by decide) _ _ (by rfl) (hrow2.ext RulP.keeps xw) ⟨y18.heap.size,0,none⟩ 1 [.int .i64 (xs[i]).redex.roots,.slice ua1 (xs[i]).redex.nodes.length uk1,.slice ua2 (xs[i]).redex.sites.length uk2,.int .i64 (xs[i]).redex.edges,.slice ua4 (xs[i]).redex.outer.length uk4,.slice ua5 (xs[i]).redex.inner.length uk5,.int .i64 (xs[i]).reactum.roots,.slice va1 (xs[i]).reactum.nodes.length vk1,.slice va2 (xs[i]).reactum.sites.length vk2,.int .i64 (xs[i]).reactum.edges,.slice va4 (xs[i]).reactum.outer.length vk4,.slice va5 (xs[i]).reactum.inner.length vk5,.slice va9 (xs[i]).copies.length vk9] rfl rfl (box_cells hSS) (by simp [Value.oneCell']) (wr.heap.size) (y18.heap.size) (by omega) (by first|omega|(simp;omega)) hsep (xs[i]) hel (by first|omega|(simp;omega)) (by decide) (by first|omega|(simp;omega)) ?_;intro v3 w3 row3 ext3)
   go_roundw
   case rel=>exact ⟨i+1,rfl,by omega,by rw [HT.out];exact row3,ext3 w hx2 (Nat.le_refl _)⟩
   all_goals (simp only [intOf];omega)
  ·have e:i=xs.length:=by omega
   subst e
   rw [List.take_length] at hrow
   go_wp2
   go_ret
   exact ⟨_,rfl,hrow.toSlV RulP.widens (Nat.le_refl _),hx⟩
end Go.Proofs.YtccjepndhlobpaaGreatDoor
