/-
  Proved facts that the law leans on.
-/
import Derived.Test.YtclpbhoekmecjaaGreatDoorZP6
import Derived.Test.YtclpbhoekmecjaaGreatDoorCards
import Derived.Test.YtclpbhoekmecjaaGreatDoorTie
import Derived.ProofKit
import Derived.ShutString
import Derived.Deep.DeepHandedRow
import Derived.Lay
import Derived.LaidSub
import Derived.MakeChecks
import Derived.Sort.OwnSorted
import Derived.MapKept
namespace Go.Proofs.YtclpbhoekmecjaaGreatDoor
open Go.RowKit
set_option linter.unusedVariables false
set_option maxRecDepth 100000
set_option maxHeartbeats 4000000
attribute [local irreducible] az Der At
def w7 (b:Big) (es:List Int) (l:Int):Int:=if b.edges≤l then l else atI es l
def B3 (b:Big) (es:List Int) (l:Int):Prop:=0≤l∧(l<b.edges→l<es.length)
theorem zr (b:Big) (es:List Int) (l:Int) (h:B3 b es l):FnD Tryz.prog 188 [b.D,.i l,DI es] (.d (.i (w7 b es l))):=by
 refine ai Tryz.func188 (fun hw W0=>?_)
 obtain ⟨h0,h1⟩:=h
 refine kgo ?_
 refine aV (fun h=>?_) (fun h=>?_)
 ·refine kgo ?_
  rw [show w7 b es l=l from if_pos h]
  exact ax
 ·have h1:=h1 (by omega)
  refine kgo ?_
  rw [show w7 b es l=atI es l from if_neg h]
  exact ax
def xc (b:Big) (to es:List Int) (n:Nd):Nd:=⟨n.control,oh to n.parent,n.links.map (w7 b es)⟩
def tJ (b:Big) (to es:List Int) (k:Nat):List Nd:=(List.range k).foldl (fun l (i:Nat)=>l.set (atI to i).toNat (xc b to es (eA b i))) (List.replicate b.nodes.length ⟨0,0,[]⟩)
theorem o7 (b:Big) (to es:List Int) (k:Nat):tJ b to es (k+1)=(tJ b to es k).set (atI to k).toNat (xc b to es (eA b k)):=by unfold tJ;rw [List.range_succ,List.foldl_append];rfl
theorem BJ (b:Big) (to es:List Int) (k:Nat):(tJ b to es k).length=b.nodes.length:=by
 induction k with
 | zero=>simp [tJ]
 | succ k ih=>rw [o7,List.length_set,ih]
def Dz (b:Big) (es:List Int) (w:Wr):Wr:=⟨w.name,w7 b es w.link⟩
def GR (b:Big) (to es:List Int):Big:=⟨b.roots,tJ b to es b.nodes.length,b.sites.map (oh to),b.edges,b.outer,b.inner.map (Dz b es)⟩
structure Dj (b:Big) (to es:List Int):Prop where
 len:to.length=b.nodes.length
 tos:∀x∈to,0≤x∧x<(b.nodes.length:Int)
 par:∀n∈b.nodes,n.parent<to.length
 links:∀n∈b.nodes,∀l∈n.links,B3 b es l
 sites:∀p∈b.sites,p<to.length
 inner:∀w∈b.inner,B3 b es w.link
 nodes:b.nodes.length≤1000
 sl:b.sites.length≤1000
 il:b.inner.length≤1000
 ol:b.outer.length≤1000
 ll:∀n∈b.nodes,n.links.length≤1000
theorem s6 (b:Big) (to es:List Int) (H:Dj b to es):FnD Tryz.prog 127 [b.D,DI to,DI es] (.d (GR b to es).D):=by
 have hnl:=H.nodes
 have htl:=H.len
 have hsl:=H.sl
 have hil:=H.il
 have hol:=H.ol
 have hz:List.replicate b.nodes.length (Nd.D ⟨0,0,[]⟩)=(tJ b to es 0).map Nd.D:=by rw [show tJ b to es 0=List.replicate b.nodes.length ⟨0,0,[]⟩ from by simp [tJ],List.map_replicate]
 refine ai Tryz.func127 (fun hw W0=>?_)
 refine kgo ?_
 refine m7 (n:=b.nodes.length) (Nd.D ⟨0,0,[]⟩) ?_ rfl rfl (hb:=by show 40 * b.nodes.length≤1000000000;omega)
 repeat (first|(refine ck ?_;first|refine bd ?_|refine cC ?_|refine bo ?_|refine bl ?_|refine aY ?_|refine br ?_|refine bw ?_|refine aK ?_|refine bp ?_)|(refine gv ?_;first|refine cd ?_|refine gg ?_|refine ct ?_|refine cz ?_)|(refine gj ?_;first|refine eV (fun _=>?_)|refine cu ?_|refine cq ?_|refine bT ?_|refine ci ?_|refine cw ?_)|(refine gu ?_;first|refine cK ?_|refine fy ?_|refine cH ?_|refine bY ?_|refine cF ?_|refine cE ?_)|(refine fV ?_;first|refine gq ?_|refine fQ ?_|refine ch ?_|refine cb ?_|refine fZ ?_|refine bf ?_|refine bm ?_)|(refine cm ?_;first|refine be ?_|refine cI ?_)|(refine fY ?_;first|refine cG ?_|refine cA ?_|refine gm ?_)|(refine cj ?_;first|refine cr ?_|refine bj ?_|refine bc ?_|refine bk ?_|refine aX ?_|refine bu ?_)|(refine gr ?_;first|refine cB ?_|refine fS ?_|refine bq ?_)|(refine aW ?_;first|refine aC _ ?_|refine bt ?_|refine aG ?_|refine aE ?_|refine aJ ?_)|(refine gh ?_;first|refine co ?_|refine b7 ?_|refine cy ?_)|(refine gOp ?_;first|refine gx ?_|refine gd ?_|refine bh ?_|refine fX ?_|refine fW ?_|refine cJ ?_|refine aZ ?_|refine cg ?_|refine gw ?_|refine b8 ?_|refine cL ?_|refine bg ?_|refine sFz 24 ?_|refine aH ?_|refine cD ?_|refine sNo ?_)|refine gC ?_|refine fa ?_|refine gG ?_|refine bA ?_|refine cM ?_|refine bP ?_|refine gL ?_|refine gF ?_|refine gA ?_|refine fm ?_|refine cQ ?_|refine bD ?_|refine aB ?_|refine bB ?_|refine cO ?_|refine bN ?_|refine aBlkX ?_|refine cP ?_|refine sFz 24 ?_)
 refine ar [1,2,3,6,7] (fun i:Nat=>i≤b.nodes.length) (fun i=>b.nodes.length - i) (fun i=>[(10007,.tk (.bx [.d (.i b.roots),.k 20001,.d (.n 1),.d (.i b.edges),.d (DS b.outer),.d (.n 2)])),(20001,.tk (.row 3 131 ((tJ b to es i).map Nd.D))),(8,.sy (.d (.i i)))]) 0 (Nat.zero_le _) (fun i hi=>?_)
 refine kgo ?_
 refine aV (fun h=>?_) (fun h=>?_)
 ·have hlt:i<b.nodes.length:=by omega
  have hm:=List.getElem_mem hlt
  have hll:=H.ll _ hm
  have htie:=H.links _ hm
  refine kgo ?_
  refine ar [1,2,3,6,7,8] (fun k:Nat=>k≤(b.nodes[i]).links.length) (fun k=>(b.nodes[i]).links.length - k) (fun k=>[(9,.sy (.k 20002)),(20002,.tk (.row 1 3 ((((b.nodes[i]).links.take k).map (w7 b es)).map .i))),(10,.sy (.d (.i k)))]) 0 (Nat.zero_le _) (fun k hk=>?_)
  refine kgo ?_
  refine aV (fun h2=>?_) (fun h2=>?_)
  ·have hkl:k<(b.nodes[i]).links.length:=by omega
   have f1:=zr b es (b.nodes[i]).links[k] (htie _ (List.getElem_mem hkl))
   have hs:(((b.nodes[i]).links.take (k+1)).map (w7 b es)).map D.i=(((b.nodes[i]).links.take k).map (w7 b es)).map D.i++[.i (w7 b es (b.nodes[i]).links[k])]:=by rw [List.take_succ_eq_append_getElem hkl,List.map_append,List.map_append];rfl
   have hq:(((b.nodes[i]).links.take k).map (w7 b es)).length≤1000:=by rw [List.length_map,List.length_take];omega
   refine kgo ?_
   exact ab (k+1) hkl (by omega)
  rw [show (b.nodes[i]).links.take k=(b.nodes[i]).links from List.take_of_length_le (by omega)]
  have hlt2:i<to.length:=by omega
  obtain ⟨h0,h1⟩:=H.tos _ (List.getElem_mem hlt2)
  obtain ⟨q,hq⟩:=Int.eq_ofNat_of_zero_le h0
  have hrl:=BJ b to es i
  have hs:=o7 b to es i
  rw [bJ to i hlt2,hq,Int.toNat_natCast,aA b i hlt] at hs
  have hql:q<(tJ b to es i).length:=by omega
  have f2:=qR (b.nodes[i]).parent to (H.par _ hm)
  repeat (first|(refine ck ?_;first|refine bd ?_|refine cC ?_|refine bo ?_|refine bl ?_|refine aY ?_|refine br ?_|refine bw ?_|refine aK ?_|refine bp ?_)|(refine gv ?_;first|refine cd ?_|refine gg ?_|refine ct ?_|refine cz ?_)|(refine gj ?_;first|refine eV (fun _=>?_)|refine cu ?_|refine cq ?_|refine bT ?_|refine ci ?_|refine cw ?_)|(refine gu ?_;first|refine cK ?_|refine fy ?_|refine cH ?_|refine bY ?_|refine cF ?_|refine cE ?_)|(refine fV ?_;first|refine gq ?_|refine fQ ?_|refine ch ?_|refine cb ?_|refine fZ ?_|refine bf ?_|refine bm ?_)|(refine cm ?_;first|refine be ?_|refine cI ?_)|(refine fY ?_;first|refine cG ?_|refine cA ?_|refine gm ?_)|(refine cj ?_;first|refine cr ?_|refine bj ?_|refine bc ?_|refine bk ?_|refine aX ?_|refine bu ?_)|(refine gr ?_;first|refine cB ?_|refine fS ?_|refine bq ?_)|(refine aW ?_;first|refine aC _ ?_|refine bt ?_|refine aG ?_|refine aE ?_|refine aJ ?_)|(refine gh ?_;first|refine co ?_|refine b7 ?_|refine cy ?_)|(refine gOp ?_;first|refine gx ?_|refine gd ?_|refine bh ?_|refine fX ?_|refine fW ?_|refine cJ ?_|refine aZ ?_|refine cg ?_|refine gw ?_|refine b8 ?_|refine cL ?_|refine bg ?_|refine sFz 80 ?_|refine aH ?_|refine cD ?_|refine sNo ?_)|refine gC ?_|refine fa ?_|refine gG ?_|refine bA ?_|refine cM ?_|refine bP ?_|refine gL ?_|refine gF ?_|refine gA ?_|refine fm ?_|refine cQ ?_|refine bD ?_|refine aB ?_|refine bB ?_|refine cO ?_|refine bN ?_|refine aBlkX ?_|refine cP ?_|refine sFz 80 ?_)
  refine bT (n:=q) ?_ rfl rfl rfl (congrArg some hq)
  refine Ev (f:=Nd.D) (l:=tJ b to es i) (xc b to es b.nodes[i]) ?_
  refine kgo ?_
  rw [← hs]
  exact ab (i+1) hlt (by omega)
 rw [show i=b.nodes.length by omega]
 refine kgo ?_
 refine nK 10007 1 ?_
 refine nx 10007 2 20003 3 ?_
 refine ar [1,2,3,6,7] (fun i:Nat=>i≤b.sites.length) (fun i=>b.sites.length - i) (fun i=>[(10007,.tk (.bx [.d (.i b.roots),.d (.l 3 ((tJ b to es b.nodes.length).map Nd.D)),.k 20003,.d (.i b.edges),.d (DS b.outer),.d (.n 2)])),(20003,.tk (.row 1 3 (((b.sites.take i).map (oh to)).map .i))),(11,.sy (.d (.i i)))]) 0 (Nat.zero_le _) (fun i hi=>?_)
 refine kgo ?_
 refine aV (fun h=>?_) (fun h=>?_)
 ·have hlt:i<b.sites.length:=by omega
  have f1:=qR b.sites[i] to (H.sites _ (List.getElem_mem hlt))
  have hs:((b.sites.take (i+1)).map (oh to)).map D.i=((b.sites.take i).map (oh to)).map D.i++[.i (oh to b.sites[i])]:=by rw [List.take_succ_eq_append_getElem hlt,List.map_append,List.map_append];rfl
  have hq:((b.sites.take i).map (oh to)).length≤1000:=by rw [List.length_map,List.length_take];omega
  refine kgo ?_
  exact ab (i+1) hlt (by omega)
 rw [show b.sites.take i=b.sites from List.take_of_length_le (by omega)]
 refine kgo ?_
 refine nK 10007 2 ?_
 refine nx 10007 5 20004 133 ?_
 refine ar [2,3,6,7] (fun i:Nat=>i≤b.inner.length) (fun i=>b.inner.length - i) (fun i=>[(10007,.tk (.bx [.d (.i b.roots),.d (.l 3 ((tJ b to es b.nodes.length).map Nd.D)),.d (DI (b.sites.map (oh to))),.d (.i b.edges),.d (DS b.outer),.k 20004])),(20004,.tk (.row 2 133 (((b.inner.take i).map (Dz b es)).map Wr.D))),(12,.sy (.d (.i i)))]) 0 (Nat.zero_le _) (fun i hi=>?_)
 refine kgo ?_
 refine aV (fun h=>?_) (fun h=>?_)
 ·have hlt:i<b.inner.length:=by omega
  have f1:=zr b es (b.inner[i]).link (H.inner _ (List.getElem_mem hlt))
  have hs:((b.inner.take (i+1)).map (Dz b es)).map Wr.D=((b.inner.take i).map (Dz b es)).map Wr.D++[Wr.D ⟨(b.inner[i]).name,w7 b es (b.inner[i]).link⟩]:=by rw [List.take_succ_eq_append_getElem hlt,List.map_append,List.map_append];rfl
  have hq:((b.inner.take i).map (Dz b es)).length≤1000:=by rw [List.length_map,List.length_take];omega
  refine kgo ?_
  exact ab (i+1) hlt (by omega)
 rw [show b.inner.take i=b.inner from List.take_of_length_le (by omega)]
 refine bP (aB (aB (bN (bD ?_))))
 refine nK 10007 5 ?_
 refine kgo ?_
 exact ax
def kK (n:Nat):List Int:=(List.range n).map fun (i:Nat)=>(i:Int)
theorem rU (n:Nat):kK (n+1)=kK n++[(n:Int)]:=by unfold kK;rw [List.range_succ,List.map_append];rfl
theorem ic (n:Nat):(kK n).length=n:=by unfold kK;simp
theorem vh (n i:Nat) (h:i<n):atI (kK n) i=i:=by rw [bJ _ i (by rw [ic];exact h)];simp [kK]
theorem Ad {b:Big} {l:Int} (h:dJ b l=true):B3 b (kK b.edges.toNat) l∧w7 b (kK b.edges.toNat) l=l:=by
 obtain ⟨n,rfl,hn⟩:=gz h
 refine ⟨⟨by omega,fun h=>by rw [ic];omega⟩,?_⟩
 unfold w7
 split
 ·rfl
 ·exact vh _ n (by omega)
theorem DT {b:Big} (h:∀n∈b.nodes,xc b (kK b.nodes.length) (kK b.edges.toNat) n=n):∀k,k≤b.nodes.length→tJ b (kK b.nodes.length) (kK b.edges.toNat) k=b.nodes.take k++List.replicate (b.nodes.length - k) ⟨0,0,[]⟩:=by
 intro k
 induction k with
 | zero=>intro _;simp [tJ]
 | succ k ih=>
  intro hk
  rw [o7,ih (by omega),vh _ k hk,Int.toNat_natCast,aA b k hk,h _ (List.getElem_mem _),List.set_append_right _ _ (by rw [List.length_take];omega),List.length_take,Nat.min_eq_left (by omega),Nat.sub_self,show b.nodes.length - k=(b.nodes.length - (k+1))+1 by omega,List.replicate_succ,List.set_cons_zero,List.take_succ_eq_append_getElem (by omega),List.append_assoc]
  rfl
theorem Gj {sig:List Ctl} {b:Big} (hb:ay sig b=true):Dj b (kK b.nodes.length) (kK b.edges.toNat)∧GR b (kK b.nodes.length) (kK b.edges.toNat)=b:=by
 have hd:=aU hb
 have hdm:=bG hb
 obtain ⟨_,_,h3,h4⟩:=cN hb
 have hnode:∀n∈b.nodes,-b.roots≤n.parent∧n.parent<b.nodes.length∧(∀l∈n.links,dJ b l=true)∧n.links.length≤1000:=fun n hn=>by
  obtain ⟨i,hi,rfl⟩:=List.mem_iff_getElem.1 hn
  have:=iP hb i hi
  exact ⟨this.1,by omega,(eB hb i hi).2.2.2.2,hdm.7 i hi⟩
 have hmv:∀p:Int,p<b.nodes.length→oh (kK b.nodes.length) p=p:=fun p hp=>by
  unfold oh
  split
  ·rfl
  ·obtain ⟨k,rfl⟩:=Int.eq_ofNat_of_zero_le (show 0≤p by omega)
   exact vh _ k (by omega)
 have hsite:∀p∈b.sites,p<b.nodes.length:=fun p hp=>by
  have h5:=List.all_eq_true.1 h3 p hp
  unfold fe dB at h5
  split at h5
  ·omega
  ·simp only [Bool.and_eq_true,decide_eq_true_eq] at h5;exact h5.1
 have hlk:∀l,dJ b l=true→w7 b (kK b.edges.toNat) l=l:=fun l h=>(Ad h).2
 have hin:∀w∈b.inner,dJ b w.link=true:=fun w hw=>List.all_eq_true.1 h4 w hw
 refine ⟨⟨ic _,fun x hx=>?_,fun n hn=>by rw [ic];exact (hnode n hn).2.1,fun n hn l hl=>(Ad ((hnode n hn).2.2.1 l hl)).1,fun p hp=>by rw [ic];exact hsite p hp,fun w hw=>(Ad (hin w hw)).1,by omega,by omega,by omega,by omega,fun n hn=>(hnode n hn).2.2.2⟩,?_⟩
 ·unfold kK at hx
  obtain ⟨i,hi,rfl⟩:=List.mem_map.1 hx
  have:=List.mem_range.1 hi;omega
 ·have e1:∀n∈b.nodes,xc b (kK b.nodes.length) (kK b.edges.toNat) n=n:=fun n hn=>by
   obtain ⟨c,p,ls⟩:=n
   obtain ⟨_,q1,q2,_⟩:=hnode _ hn
   unfold xc
   rw [hmv _ q1]
   congr 1
   exact (List.map_congr_left fun l hl=>hlk l (q2 l hl)).trans (List.map_id _)
  unfold GR
  rw [DT e1 _ (Nat.le_refl _),Nat.sub_self,List.take_length,List.replicate_zero,List.append_nil]
  have e2:b.sites.map (oh (kK b.nodes.length))=b.sites:=(List.map_congr_left fun p hp=>hmv p (hsite p hp)).trans (List.map_id _)
  have e3:b.inner.map (Dz b (kK b.edges.toNat))=b.inner:=(List.map_congr_left fun w hw=>show Dz b _ w=w by obtain ⟨nm,lk⟩:=w;unfold Dz;rw [hlk _ (hin _ hw)]).trans (List.map_id _)
  rw [e2,e3]
theorem E9 {sig:List Ctl} {b:Big} (hb:ay sig b=true):FnD Tryz.prog 87 [b.D] (.d b.D):=by
 obtain ⟨H,hE⟩:=Gj hb
 have hd:=aU hb
 obtain ⟨e,he⟩:=Int.eq_ofNat_of_zero_le hd.2.2.2.1.1
 have f1:=s6 b _ _ H
 rw [hE,he,Int.toNat_natCast] at f1
 refine ai Tryz.func87 (fun hw W0=>?_)
 refine kgo ?_
 refine ar [1,2,4] (fun i:Nat=>i≤b.nodes.length) (fun i=>b.nodes.length - i) (fun i=>[(3,.sy (.k 20001)),(20001,.tk (.row 1 3 ((kK i).map .i))),(5,.sy (.d (.i i)))]) 0 (Nat.zero_le _) (fun i hi=>?_)
 refine kgo ?_
 refine aV (fun h=>?_) (fun h=>?_)
 ·have hlt:i<b.nodes.length:=by omega
  have hs:(kK (i+1)).map D.i=(kK i).map D.i++[.i i]:=by rw [rU,List.map_append];rfl
  have hl:=ic i
  refine kgo ?_
  exact ab (i+1) hlt (by omega)
 rw [show i=b.nodes.length by omega]
 refine kgo ?_
 refine ar [1,2,3] (fun i:Nat=>i≤e) (fun i=>e - i) (fun i=>[(4,.sy (.k 20002)),(20002,.tk (.row 1 3 ((kK i).map .i))),(6,.sy (.d (.i i)))]) 0 (Nat.zero_le _) (fun i hi=>?_)
 refine kgo ?_
 refine aV (fun h=>?_) (fun h=>?_)
 ·have hlt:i<e:=by omega
  have hs:(kK (i+1)).map D.i=(kK i).map D.i++[.i i]:=by rw [rU,List.map_append];rfl
  have hl:=ic i
  refine kgo ?_
  exact ab (i+1) hlt (by omega)
 rw [show i=e by omega]
 repeat (first|refine cFz 3 ?_|refine cFz 4 ?_|(refine ck ?_;first|refine bd ?_|refine cC ?_|refine bo ?_|refine bl ?_|refine aY ?_|refine br ?_|refine bw ?_|refine aK ?_|refine bp ?_)|(refine gv ?_;first|refine cd ?_|refine gg ?_|refine ct ?_|refine cz ?_)|(refine gj ?_;first|refine eV (fun _=>?_)|refine cu ?_|refine cq ?_|refine bT ?_|refine ci ?_|refine cw ?_)|(refine gu ?_;first|refine cK ?_|refine fy ?_|refine cH ?_|refine bY ?_|refine cF ?_|refine cE ?_)|(refine fV ?_;first|refine gq ?_|refine fQ ?_|refine ch ?_|refine cb ?_|refine fZ ?_|refine bf ?_|refine bm ?_)|(refine cm ?_;first|refine be ?_|refine cI ?_)|(refine fY ?_;first|refine cG ?_|refine cA ?_|refine gm ?_)|(refine cj ?_;first|refine cr ?_|refine bj ?_|refine bc ?_|refine bk ?_|refine aX ?_|refine bu ?_)|(refine gr ?_;first|refine cB ?_|refine fS ?_|refine bq ?_)|(refine aW ?_;first|refine aC _ ?_|refine bt ?_|refine aG ?_|refine aE ?_|refine aJ ?_)|(refine gh ?_;first|refine co ?_|refine b7 ?_|refine cy ?_)|(refine gOp ?_;first|refine gx ?_|refine gd ?_|refine bh ?_|refine fX ?_|refine fW ?_|refine cJ ?_|refine aZ ?_|refine cg ?_|refine gw ?_|refine b8 ?_|refine cL ?_|refine bg ?_|refine aH ?_|refine cD ?_|refine sNo ?_)|refine gC ?_|refine fa ?_|refine gG ?_|refine bA ?_|refine cM ?_|refine bP ?_|refine gL ?_|refine gF ?_|refine gA ?_|refine fm ?_|refine cQ ?_|refine bD ?_|refine aB ?_|refine bB ?_|refine cO ?_|refine bN ?_|refine aBlkX ?_|refine cP ?_)
 exact ax
end Go.Proofs.YtclpbhoekmecjaaGreatDoor
namespace Go.Proofs.YtclpbhoekmecjaaGreatDoor
open Go.RowKit
set_option linter.unusedVariables false
set_option maxRecDepth 100000
set_option maxHeartbeats 4000000
attribute [local irreducible] az Der At
theorem Co (b:Big) (l:Int) (hl:b.inner.length≤1000):FnD Tryz.prog 298 [b.D,.i l] (.d (DS (mP b l))):=by
 refine ai Tryz.func298 (fun hw W0=>?_)
 refine kgo ?_
 refine ar [1,2] (fun i:Nat=>i≤b.inner.length) (fun i=>b.inner.length - i) (fun i=>[(5,.sy (.k 20001)),(20001,.tk (.row 1 9 ((dY b l i).map .s))),(6,.sy (.d (.i i)))]) 0 (Nat.zero_le _) (fun i hi=>?_)
 refine kgo ?_
 refine aV (fun h=>?_) (fun h=>?_)
 ·have hlt:i<b.inner.length:=by omega
  have hq:=iO b l i
  refine kgo ?_
  refine aV (fun h2=>?_) (fun h2=>?_)
  ·have hs:(dY b l (i+1)).map D.s=(dY b l i).map D.s++[.s (b.inner[i]).name]:=by rw [mC hlt h2,List.map_append];rfl
   refine kgo ?_
   exact ab (i+1) hlt (by omega)
  ·have hs:(dY b l (i+1)).map D.s=(dY b l i).map D.s:=by rw [nT hlt h2]
   refine kgo ?_
   exact ab (i+1) hlt (by omega)
 rw [show mP b l=dY b l i from by rw [show i=b.inner.length by omega];rfl]
 repeat (first|(refine ck ?_;first|refine bd ?_|refine cC ?_|refine bo ?_|refine bl ?_|refine aY ?_|refine br ?_|refine bw ?_|refine aK ?_|refine bp ?_)|(refine gv ?_;first|refine cd ?_|refine gg ?_|refine ct ?_|refine cz ?_)|(refine gj ?_;first|refine eV (fun _=>?_)|refine cu ?_|refine cq ?_|refine bT ?_|refine ci ?_|refine cw ?_)|(refine gu ?_;first|refine cK ?_|refine fy ?_|refine cH ?_|refine bY ?_|refine cF ?_|refine cE ?_)|(refine fV ?_;first|refine gq ?_|refine fQ ?_|refine ch ?_|refine cb ?_|refine fZ ?_|refine bf ?_|refine bm ?_)|(refine cm ?_;first|refine be ?_|refine cI ?_)|(refine fY ?_;first|refine iY (d:=4) ?_|refine cG ?_|refine cA ?_|refine gm ?_)|(refine cj ?_;first|refine cr ?_|refine bj ?_|refine bc ?_|refine bk ?_|refine aX ?_|refine bu ?_)|(refine gr ?_;first|refine cB ?_|refine fS ?_|refine bq ?_)|(refine aW ?_;first|refine aC _ ?_|refine bt ?_|refine aG ?_|refine aE ?_|refine aJ ?_)|(refine gh ?_;first|refine co ?_|refine b7 ?_|refine cy ?_)|(refine gOp ?_;first|refine gx ?_|refine gd ?_|refine bh ?_|refine fX ?_|refine fW ?_|refine cJ ?_|refine aZ ?_|refine cg ?_|refine gw ?_|refine b8 ?_|refine cL ?_|refine bg ?_|refine aH ?_|refine cD ?_|refine sNo ?_)|refine gC ?_|refine fa ?_|refine gG ?_|refine bA ?_|refine cM ?_|refine bP ?_|refine gL ?_|refine gF ?_|refine gA ?_|refine fm ?_|refine cQ ?_|refine bD ?_|refine aB ?_|refine bB ?_|refine cO ?_|refine bN ?_|refine aBlkX ?_|refine cP ?_)
 exact ax
theorem sY {α:Type} (l:List α):decide ((l.length:Int)=0)=l.isEmpty:=by cases l <;> simp <;> omega
theorem Cn {b:Big} (d:uz b) (l:Int) (hi:b.inner.length≤1000):FnD Tryz.prog 261 [b.D,.i l] (.d (.b (nz b l))):=by
 have f1:=lP b l d.3 d.7
 have f2:=Co b l hi
 have hpl:=eY b l d.3 d.7
 have hel:=iO b l b.inner.length
 refine ai Tryz.func261 (fun hw W0=>?_)
 refine kgo ?_
 have e1:=sY (aw b l)
 have e2:=sY (mP b l)
 unfold nz
 rw [← e1,← e2]
 cases h:decide (((aw b l).length:Int)=0)
 ·refine kgo ?_
  exact ax
 ·refine kgo ?_
  exact ax
theorem vJ {b:Big} (h:(List.range (ap b)).all (dq b)=false):bZ b=false:=by unfold bZ;rw [h];simp
theorem zj {b:Big} (d:uz b) (hi:b.inner.length≤1000):FnD Tryz.prog 226 [b.D] (.d (.b (bZ b))):=by
 have hr:=bL d.1
 have he:=bL d.2
 have hn:=d.3
 have hs:=d.4
 have ho:=d.5
 obtain ⟨R,hR⟩:=Int.eq_ofNat_of_zero_le hr.1
 have hlk:b.edges+(b.outer.length:Int)=(ap b:Nat):=by unfold ap;omega
 have hroot:∀i:Nat,gi b i=(!(decide ((eH b (-1 - (i:Int))).length=0)) && decide ((ba b (-1 - (i:Int))).length=0)):=fun i=>rfl
 refine ai Tryz.func226 (fun hw W0=>?_)
 refine kgo ?_
 cases h1:decide ((0:Int)<b.inner.length)
 ·have h1:=of_decide_eq_false h1
  refine kgo ?_
  refine aV (fun h2=>?_) (fun h2=>?_)
  ·refine kgo ?_
   rw [lh (.inr h2)]
   exact ax
  refine kgo ?_
  refine ar [1] (fun i:Nat=>i≤R∧(List.range i).all (gi b)=true) (fun i=>R - i) (fun i=>[(3,.sy (.d (.i i)))]) 0 ⟨Nat.zero_le _,rfl⟩ (fun i hi=>?_)
  refine kgo ?_
  refine aV (fun h3=>?_) (fun h3=>?_)
  ·have hlt:i<R:=by omega
   have f1:=vX b (-1 - (i:Int)) (by omega)
   have f2:=lV b (-1 - (i:Int)) (by omega)
   have hk1:=lO b (-1 - (i:Int))
   have hk2:=qy b (-1 - (i:Int))
   have hok:=hroot i
   have bad:gi b i=false→bZ b=false:=fun h=>vq i (by rw [hR];exact hlt) h
   refine kgo ?_
   cases h4:decide (((eH b (-1 - (i:Int))).length:Int)=0)
   ·have h4:=of_decide_eq_false h4
    rw [decide_eq_false (by omega)] at hok
    refine kgo ?_
    refine aV (fun h5=>?_) (fun h5=>?_)
    ·rw [decide_eq_false (by omega)] at hok
     refine kgo ?_
     rw [bad hok]
     exact ax
    ·rw [decide_eq_true (by omega)] at hok
     refine kgo ?_
     exact ab (i+1) ⟨hlt,by rw [cW,hi.2,hok];rfl⟩ (by omega)
   ·have h4:=of_decide_eq_true h4
    rw [decide_eq_true (by omega)] at hok
    refine kgo ?_
    rw [bad hok]
    exact ax
  have hroots:(List.range b.roots.toNat).all (gi b)=true:=by rw [hR,Int.toNat_natCast];exact ff _ _ i (by omega) hi.1 hi.2
  refine kgo ?_
  refine ar [1] (fun i:Nat=>i≤b.nodes.length∧(List.range i).all (cX b)=true) (fun i=>b.nodes.length - i) (fun i=>[(4,.sy (.d (.i i)))]) 0 ⟨Nat.zero_le _,rfl⟩ (fun i hi=>?_)
  refine kgo ?_
  refine aV (fun h3=>?_) (fun h3=>?_)
  ·have hlt:i<b.nodes.length:=by omega
   have f2:=lV b i (by omega)
   have hk1:=lO b i
   have hok:cX b i=decide ((ba b i).length≤1):=rfl
   refine kgo ?_
   refine aV (fun h5=>?_) (fun h5=>?_)
   ·rw [decide_eq_false (by omega)] at hok
    refine kgo ?_
    rw [uF i hlt hok]
    exact ax
   ·rw [decide_eq_true (by omega)] at hok
    refine kgo ?_
    exact ab (i+1) ⟨hlt,by rw [cW,hi.2,hok];rfl⟩ (by omega)
  have hnodes:(List.range b.nodes.length).all (cX b)=true:=ff _ _ i (by omega) hi.1 hi.2
  refine kgo ?_
  refine ar [1] (fun i:Nat=>i≤ap b∧(List.range i).all (dq b)=true) (fun i=>ap b - i) (fun i=>[(5,.sy (.d (.i i)))]) 0 ⟨Nat.zero_le _,rfl⟩ (fun i hi=>?_)
  refine kgo ?_
  refine aV (fun h3=>?_) (fun h3=>?_)
  ·have hlt:i<ap b:=by omega
   have f2:=Cn d i (by assumption)
   have hok:dq b i = !(nz b i):=rfl
   refine kgo ?_
   refine cIf (fun h5=>?_) (fun h5=>?_)
   ·rw [h5] at hok
    refine kgo ?_
    rw [vJ (aT _ _ i hlt hok)]
    exact ax
   ·rw [h5] at hok
    refine kgo ?_
    exact ab (i+1) ⟨hlt,by rw [cW,hi.2,hok];rfl⟩ (by omega)
  refine kgo ?_
  rw [pQ (by omega) h2 hroots hnodes (ff _ _ i (by omega) hi.1 hi.2)]
  exact ax
 ·have h1:=of_decide_eq_true h1
  refine kgo ?_
  rw [lh (.inl (by omega))]
  exact ax
theorem A5 (sig:List Ctl) (b:Big) (hl:b.inner.length≤1048576):FnD Tryz.prog 176 [.l 3 (sig.map Ctl.D),b.D] (.d (.b (ay sig b && bZ b))):=by
 have f1:=fE sig b (by omega)
 refine ai Tryz.func176 (fun hw W0=>?_)
 refine kgo ?_
 cases h:ay sig b
 ·refine kgo ?_
  exact ax
 ·have f2:=zj (bG h) (by have:=(aU h).2.2.2.2.2;omega)
  refine kgo ?_
  exact ax
theorem qA (a c:List ByteArray):FnD Tryz.prog 177 [DS a,DS c] (.d (.b (eqS a c))):=by
 refine ai Tryz.func177 (fun hw W0=>?_)
 have hl:=(wfM hw.1).1
 have hl2:=(wfM hw.2.1).1
 refine kgo ?_
 refine ar [0,1] (fun i:Nat=>i≤a.length∧i≤c.length∧(List.range i).all (kc a c)=true) (fun i=>a.length - i) (fun i=>[(5,.sy (.d (.i i)))]) 0 ⟨Nat.zero_le _,Nat.zero_le _,rfl⟩ (fun i hi=>?_)
 refine kgo ?_
 cases h:decide ((i:Int)<a.length)
 ·have h:=of_decide_eq_false h
  refine kgo ?_
  rw [show eqS a c=decide ((a.length:Int)=c.length) from by unfold eqS;rw [ff _ _ i (by omega) hi.1 hi.2.2,Bool.and_true];exact decide_eq_decide.2 (by omega)]
  exact ax
 have h:=of_decide_eq_true h
 refine kgo ?_
 refine aV (fun h2=>?_) (fun h2=>?_)
 ·have hlt:i<a.length:=by omega
  have hlt2:i<c.length:=by omega
  have hs:=jH a c i hlt hlt2
  refine kgo ?_
  refine cIf (fun h3=>?_) (fun h3=>?_)
  ·refine kgo ?_
   rw [qq (c:=c) i hlt (by rw [hs];simpa using h3)]
   exact ax
  ·refine kgo ?_
   exact ab (i+1) ⟨hlt,hlt2,by rw [cW,hi.2.2,hs];simpa using h3⟩ (by omega)
 ·refine kgo ?_
  rw [show eqS a c=decide ((a.length:Int)=c.length) from by unfold eqS;rw [decide_eq_false (by omega),Bool.false_and,decide_eq_false (by omega)]]
  exact ax
theorem xf (r:Rul) (h1:r.redex.sites.length≤1000) (h2:r.reactum.sites.length≤1000):FnD Tryz.prog 178 [r.D] (.d (.b (decide (r.copies.length=r.reactum.sites.length) && r.copies.all (iQ r)))):=by
 refine ai Tryz.func178 (fun hw W0=>?_)
 have hl:=(wfM hw.1.2.2.1).1
 refine kgo ?_
 refine ar [1] (fun i:Nat=>i≤r.copies.length∧(r.copies.take i).all (iQ r)=true) (fun i=>r.copies.length - i) (fun i=>[(3,.sy (.d (.i i)))]) 0 ⟨Nat.zero_le _,rfl⟩ (fun i hi=>?_)
 refine kgo ?_
 refine aV (fun h=>?_) (fun h=>?_)
 ·have hlt:i<r.copies.length:=by omega
  have f1:=r9 r.copies[i] 0 (r.redex.sites.length - 1)
  have hok:iQ r r.copies[i]=inR r.copies[i] 0 ((r.redex.sites.length:Int) - 1):=rfl
  refine kgo ?_
  refine cIf (fun h3=>?_) (fun h3=>?_)
  ·rw [Bool.not_eq_true'] at h3
   rw [h3] at hok
   refine kgo ?_
   rw [show r.copies.all (iQ r)=false from List.all_eq_false.2 ⟨_,List.getElem_mem hlt,by rw [hok];exact Bool.false_ne_true⟩,Bool.and_false]
   exact ax
  ·rw [Bool.not_eq_false'] at h3
   rw [h3] at hok
   refine kgo ?_
   exact ab (i+1) ⟨hlt,by rw [List.take_succ_eq_append_getElem hlt,List.all_append,hi.2,List.all_cons,hok];rfl⟩ (by omega)
 refine kgo ?_
 rw [e9 _ _ i (by omega) hi.2,Bool.and_true,show decide (r.copies.length=r.reactum.sites.length)=decide ((r.copies.length:Int)=r.reactum.sites.length) from decide_eq_decide.2 (by omega)]
 exact ax
theorem Cy (sig:List Ctl) (r:Rul) (h1:r.redex.inner.length≤1048576) (h2:r.reactum.inner.length≤1048576):FnD Tryz.prog 121 [.l 3 (sig.map Ctl.D),r.D] (.d (.b (gy sig r))):=by
 have f1:=A5 sig r.redex h1
 have f2:=fE sig r.reactum (by omega)
 have f3:=qA r.redex.outer r.reactum.outer
 have hE:gy sig r=((ay sig r.redex && ay sig r.reactum) && (bZ r.redex && (decide (r.reactum.inner.length=0) && (decide (r.redex.roots=r.reactum.roots) && (eqS r.redex.outer r.reactum.outer && (decide (r.copies.length=r.reactum.sites.length) && r.copies.all (iQ r))))))):=rfl
 have hz:decide (r.reactum.inner.length=0)=decide ((r.reactum.inner.length:Int)=0):=decide_eq_decide.2 (by omega)
 rw [hz] at hE
 refine ai Tryz.func121 (fun hw W0=>?_)
 rw [hE]
 refine kgo ?_
 cases e1:ay sig r.redex
 ·refine kgo ?_
  exact ax
 cases e2:bZ r.redex
 ·rw [Bool.false_and,Bool.and_false]
  refine kgo ?_
  exact ax
 refine kgo ?_
 cases e3:ay sig r.reactum
 ·refine kgo ?_
  exact ax
 refine kgo ?_
 cases e4:decide ((r.reactum.inner.length:Int)=0)
 ·refine kgo ?_
  exact ax
 refine kgo ?_
 cases e5:decide (r.redex.roots=r.reactum.roots)
 ·refine kgo ?_
  exact ax
 refine kgo ?_
 cases e6:eqS r.redex.outer r.reactum.outer
 ·refine kgo ?_
  exact ax
 have f4:=xf r (by have:=(bG e1).4;omega) (by have:=(bG e3).4;omega)
 refine kgo ?_
 exact ax
theorem E8 (sig:List Ctl):FnD Tryz.prog 122 [.l 3 (sig.map Ctl.D)] (.d (.b (kX sig))):=⟨bX Tryz.func122,fun F w vs hv hF=>by
 obtain ⟨v1,t,rfl,h1,h3⟩:=hv
 cases (show t = [] from h3)
 refine (mZ _ _ _ _ _ (sp.toV (by decide) h1)).mono ?_
 rintro e w' ⟨rfl,hX⟩
 exact ⟨_,rfl,hX,rfl⟩⟩
theorem zN (sig:List Ctl) (rs:List Rul) (hr:∀r∈rs,r.redex.inner.length≤1048576∧r.reactum.inner.length≤1048576):FnD Tryz.prog 82 [.l 3 (sig.map Ctl.D),.l 13 (rs.map Rul.D)] (.d (.b (fP sig rs))):=by
 have f2:=E8 sig
 have f3:=r9 rs.length 1 6
 refine ai Tryz.func82 (fun hw W0=>?_)
 have hl:=(wfM hw.2.1).1
 refine kgo ?_
 refine ar [0,1] (fun i:Nat=>i≤rs.length∧(rs.take i).all (gy sig)=true) (fun i=>rs.length - i) (fun i=>[(5,.sy (.d (.i i)))]) 0 ⟨Nat.zero_le _,rfl⟩ (fun i hi=>?_)
 refine kgo ?_
 refine aV (fun h=>?_) (fun h=>?_)
 ·have hlt:i<rs.length:=by omega
  have hm:=List.getElem_mem hlt
  have f1:=Cy sig rs[i] (hr _ hm).1 (hr _ hm).2
  refine kgo ?_
  refine cIf (fun h3=>?_) (fun h3=>?_)
  ·rw [Bool.not_eq_true'] at h3
   refine kgo ?_
   rw [show fP sig rs=false from by unfold fP;rw [show rs.all (gy sig)=false from List.all_eq_false.2 ⟨_,hm,by rw [h3];exact Bool.false_ne_true⟩,Bool.and_false]]
   exact ax
  ·rw [Bool.not_eq_false'] at h3
   refine kgo ?_
   exact ab (i+1) ⟨hlt,by rw [List.take_succ_eq_append_getElem hlt,List.all_append,hi.2,List.all_cons,h3];rfl⟩ (by omega)
 have hall:=e9 _ _ i (by omega) hi.2
 have hE:fP sig rs=inR (rs.length:Int) 1 6:=by unfold fP;rw [hall,Bool.and_true]
 refine kgo ?_
 cases e1:kX sig
 ·rw [show fP sig rs=false from by
   cases hb:fP sig rs with
   | false=>rfl
   | true=>rw [xi hb] at e1;cases e1]
  refine kgo ?_
  exact ax
 ·rw [hE]
  refine kgo ?_
  exact ax
theorem zR (sig:List Ctl) (b:Big) (hl:b.inner.length≤1048576):FnD Tryz.prog 83 [.l 3 (sig.map Ctl.D),b.D] (.d (.b (fq sig b))):=by
 have f1:=fE sig b (by omega)
 have hE:fq sig b=(ay sig b && (decide ((b.sites.length:Int)=0) && decide ((b.inner.length:Int)=0))):=by
  unfold fq
  rw [show decide (b.sites.length=0)=decide ((b.sites.length:Int)=0) from decide_eq_decide.2 (by omega),show decide (b.inner.length=0)=decide ((b.inner.length:Int)=0) from decide_eq_decide.2 (by omega)]
 refine ai Tryz.func83 (fun hw W0=>?_)
 have hs:=(wfM hw.2.1.2.2.1).1
 rw [hE]
 refine kgo ?_
 cases e1:ay sig b
 ·refine kgo ?_
  exact ax
 refine kgo ?_
 cases e2:decide ((b.sites.length:Int)=0)
 ·refine kgo ?_
  exact ax
 refine kgo ?_
 exact ax
end Go.Proofs.YtclpbhoekmecjaaGreatDoor
namespace Go.Proofs.YtclpbhoekmecjaaGreatDoor
open Go.RowKit
set_option linter.unusedVariables false
set_option maxRecDepth 100000
set_option maxHeartbeats 4000000
attribute [local irreducible] az Der At
theorem dX {r a:Big} {m:Mat} (h:eW r a m=true):qi r a m.nodes=true∧fp r a m=true∧(List.range m.nodes.length).all (ky r a m)=true∧dO r a m.nodes=true:=by
 unfold eW at h
 simp only [Bool.and_eq_true] at h
 exact ⟨h.1.1,h.1.2,h.2.2.1,h.2.2.2⟩
theorem lq {r a:Big} {m:Mat} (h:fp r a m=true):∀p∈m.roots,-a.roots≤p∧p<(a.nodes.length:Int):=fun p hp=>by
 unfold fp at h
 rw [Bool.and_eq_true] at h
 have h2:=List.all_eq_true.1 h.1 p hp
 unfold jA at h2
 rw [Bool.and_eq_true] at h2
 have:=bL h2.1
 omega
theorem jj {sig:List Ctl} {r:Rul} (h:gy sig r=true):ay sig r.redex=true∧ay sig r.reactum=true∧bZ r.redex=true∧r.reactum.inner.length=0∧r.redex.roots=r.reactum.roots∧eqS r.redex.outer r.reactum.outer=true∧r.copies.length=r.reactum.sites.length∧r.copies.all (iQ r)=true:=by
 unfold gy at h
 simp only [Bool.and_eq_true,decide_eq_true_eq] at h
 obtain ⟨⟨a,b⟩,c,d,e,f,g,i⟩:=h
 exact ⟨a,b,c,d,e,f,g,i⟩
theorem oJ {r a:Big} {m:Mat} (h:eW r a m=true) (i:Nat) (hi:i<a.nodes.length) (h1:mI a m.nodes i=true) (h2:fH m.nodes (eA a i).parent=true):0<(ba r (di m.nodes (eA a i).parent)).length:=by
 have hk:=(dX h).2.2.1
 have hm:=cS.1 h2
 have hlt:m.nodes.idxOf (eA a i).parent<m.nodes.length:=List.idxOf_lt_length_of_mem hm
 have h3:=(aD _ _).1 hk _ hlt
 have he:atI m.nodes (m.nodes.idxOf (eA a i).parent:Nat)=(eA a i).parent:=by rw [bJ _ _ hlt];exact List.getElem_idxOf hlt
 unfold ky at h3
 rw [he] at h3
 rw [show di m.nodes (eA a i).parent=(m.nodes.idxOf (eA a i).parent:Nat) from if_pos h2]
 by_cases hz:(ba r (m.nodes.idxOf (eA a i).parent:Nat)).length=0
 ·rw [decide_eq_true hz,Bool.not_true,Bool.false_or] at h3
  have hik:(i:Int)∈eH a (eA a i).parent:=bz.2 ⟨i,hi,by unfold ph;rw [List.getElem?_eq_getElem hi,aA a i hi];exact decide_eq_true rfl,rfl⟩
  have h4:=List.all_eq_true.1 h3 _ hik
  unfold mI at h1
  rw [h4] at h1
  simp at h1
 ·omega
theorem mN {outer:List ByteArray} {n:Nat} (h:n+outer.length≤16):(bI outer n).length=n:=by
 have:=yO outer 26 (Nat.le_refl _)
 show ((kJ outer 26).take n).length=n
 rw [List.length_take];omega
theorem qj {r a:Big} {ns:List Int} (h:(dH r a ns).2.2=true):(dH r a ns).2.1.length=(dH r a ns).1.length∧(dH r a ns).1.length≤16∧∀l∈(dH r a ns).1,0≤l∧l<(ap a:Int):=by
 unfold dH at h ⊢
 split at h
 ·cases h
 ·rename_i hn
  rw [if_neg hn]
  have hn:=of_decide_eq_false (by simpa using hn:decide (16<((idxOf (psF a ns) (ap a)).length:Int)+r.outer.length)=false)
  dsimp only
  refine ⟨mN (by omega),by omega,fun l hl=>?_⟩
  obtain ⟨i,hi,_,rfl⟩:=bz.1 hl
  omega
abbrev gD (r:Big) (a:Big) (m:Mat):Big:=Fr r a m (dH r a m.nodes).1 (dH r a m.nodes).2.1
abbrev fu (r:Big) (a:Big) (m:Mat):Big:=F6 r a m (dH r a m.nodes).1 (dH r a m.nodes).2.1
def fT (sig:List Ctl) (r:Rul) (a:Big) (m:Mat):Big × Bool:=
 if (dH r.redex a m.nodes).2.2 && (ay sig (gD r.redex a m) && ay sig (fu r.redex a m)) then mq sig r.reactum (gD r.redex a m) (lZ r.copies (fu r.redex a m)) else (eE,false)
theorem lE {sig:List Ctl} {r:Rul} {a:Big} {m:Mat} (h:((dH r.redex a m.nodes).2.2 && (ay sig (gD r.redex a m) && ay sig (fu r.redex a m)))=false):fT sig r a m=(eE,false):=by unfold fT;rw [h];rfl
theorem nW {sig:List Ctl} {r:Rul} {a:Big} {m:Mat} (h:((dH r.redex a m.nodes).2.2 && (ay sig (gD r.redex a m) && ay sig (fu r.redex a m)))=true):fT sig r a m=mq sig r.reactum (gD r.redex a m) (lZ r.copies (fu r.redex a m)):=by unfold fT;rw [h];rfl
theorem xO {sig:List Ctl} {a b:Big} (h:(eS sig a b).2=true):(eS sig a b).1=sM a b∧ay sig (sM a b)=true:=by
 unfold eS at h ⊢
 split at h
 ·rename_i hc
  rw [if_pos hc]
  simp only [Bool.and_eq_true] at hc
  exact ⟨rfl,hc.2.2.2⟩
 ·cases h
theorem kZ {sig:List Ctl} {r:Rul} {a:Big} {m:Mat} (h:(fT sig r a m).2=true):fq sig (fT sig r a m).1=true:=by
 cases hc:((dH r.redex a m.nodes).2.2 && (ay sig (gD r.redex a m) && ay sig (fu r.redex a m))) with
 | false=>rw [lE hc] at h;cases h
 | true=>
  rw [nW hc] at h ⊢
  unfold mq at h ⊢
  split at h
  ·rename_i h1
   split at h
   ·rename_i h2
    rw [if_pos h1,if_pos h2]
    obtain ⟨e1,e2⟩:=xO h
    rw [e1]
    unfold fq
    rw [e2]
    rfl
   ·cases h
  ·cases h
theorem AN {sig:List Ctl} {r:Rul} {a:Big} (m:Mat) (hr:gy sig r=true) (ha:ay sig a=true) (hm:eW r.redex a m=true):FnD Tryz.prog 94 [.l 3 (sig.map Ctl.D),r.D,a.D,m.D] (.tp [(fT sig r a m).1.D,.b (fT sig r a m).2]):=by
 obtain ⟨r1,r2,r3,r4,r5,r6,r7,r8⟩:=jj hr
 obtain ⟨m1,m2,m3,m4⟩:=dX hm
 have hd:=aU r1
 have hd2:=aU r2
 have f1:=yv (r:=r.redex) ha m (by omega)
 have hml:=mz (rs:=m.roots) (ns:=m.nodes) m2
 have f2:(dH r.redex a m.nodes).2.2=true→FnD Tryz.prog 135 [r.redex.D,a.D,m.D,DI (dH r.redex a m.nodes).1,DS (dH r.redex a m.nodes).2.1] (.d (gD r.redex a m).D):=fun h=>by
  obtain ⟨p1,p2,p3⟩:=qj h
  exact vL m r1 ha (jP m1) (gO r3) m4 (fun p hp=>(lq m2 p hp).2) (by omega) _ _ p3 p1 (by omega)
 have f3:(dH r.redex a m.nodes).2.2=true→FnD Tryz.prog 136 [r.redex.D,a.D,m.D,DI (dH r.redex a m.nodes).1,DS (dH r.redex a m.nodes).2.1] (.d (fu r.redex a m).D):=fun h=>by
  obtain ⟨p1,p2,p3⟩:=qj h
  exact B1 m r1 ha (oJ hm) _ _ p3 p1 (by omega)
 have hx:(dH r.redex a m.nodes).2.2=true→(gD r.redex a m).inner.length≤1000:=fun h=>by
  obtain ⟨p1,p2,p3⟩:=qj h
  show (bK _ _).length≤1000
  rw [kh]
  unfold oG zW
  rw [List.length_mapIdx,List.length_mapIdx];omega
 refine ai Tryz.func94 (fun hw W0=>?_)
 refine kgo ?_
 cases h1:(dH r.redex a m.nodes).2.2
 ·rw [lE (by rw [h1];rfl)]
  refine kgo ?_
  exact iN
 have f2:=f2 h1
 have f3:=f3 h1
 have hx:=hx h1
 have f4:=fE sig (gD r.redex a m) (by omega)
 have f5:=fE sig (fu r.redex a m) (by show (0:Nat)≤_;omega)
 have hno:(ay sig (gD r.redex a m) && ay sig (fu r.redex a m))=false→fT sig r a m=(eE,false):=fun h=>lE (by rw [h1,h];rfl)
 have hyes:(ay sig (gD r.redex a m) && ay sig (fu r.redex a m))=true→fT sig r a m=mq sig r.reactum (gD r.redex a m) (lZ r.copies (fu r.redex a m)):=fun h=>nW (by rw [h1,h];rfl)
 generalize gD r.redex a m=C at *
 generalize fu r.redex a m=Q at *
 refine kgo ?_
 cases h2:ay sig C
 ·rw [hno (by rw [h2];rfl)]
  refine kgo ?_
  exact iN
 refine kgo ?_
 cases h3:ay sig Q
 ·rw [hno (by rw [h2,h3];rfl)]
  refine kgo ?_
  exact iN
 rw [hyes (by rw [h2,h3];rfl)]
 have f6:=sq r h3 (by omega)
 have f7:=xo sig r.reactum C (lZ r.copies Q) (by omega) (by show (0:Nat)≤_;omega)
 refine kgo ?_
 exact iN
structure Trc where
 rules:List Int
 ms:List Mat
abbrev Trc.D (t:Trc):D:=.t [DI t.rules,.l 2 (t.ms.map Mat.D)]
def nA (rs:List Rul) (k:Int):Rul:=rs.getD k.toNat ⟨eE,eE,[]⟩
def Ac (sig:List Ctl) (rs:List Rul) (b:Big) (k:Int) (m:Mat):Bool:=inR k 0 (rs.length - 1) && (eW (nA rs k).redex b m && (iD sig b m.roots && (fT sig (nA rs k) b m).2))
def rm (sig:List Ctl) (rs:List Rul):List (Int × Mat)→Big→Nat→Big × Nat
 | [],b,i=>(b,i)
 | (k,m) :: t,b,i=>if Ac sig rs b k m then rm sig rs t (fT sig (nA rs k) b m).1 (i+1) else (b,i)
def nw (sig:List Ctl) (rs:List Rul) (a:Big) (t:Trc):Big × Nat:=rm sig rs (t.rules.zip t.ms) a 0
theorem tv (rs:List Rul) (q:Nat) (h:q<rs.length):nA rs q=rs[q]:=by unfold nA;simp [h]
theorem pM {sig:List Ctl} {rs:List Rul} {t:Trc} (hl:t.rules.length=t.ms.length) (i:Nat) (h1:i<t.rules.length) (h2:i<t.ms.length) (b:Big):rm sig rs ((t.rules.zip t.ms).drop i) b i=if Ac sig rs b t.rules[i] t.ms[i] then rm sig rs ((t.rules.zip t.ms).drop (i+1)) (fT sig (nA rs t.rules[i]) b t.ms[i]).1 (i+1) else (b,i):=by
 rw [List.drop_eq_getElem_cons (by rw [List.length_zip];omega),List.getElem_zip];rfl
theorem rV {sig:List Ctl} {rs:List Rul} {t:Trc} (hl:t.rules.length=t.ms.length) (i:Nat) (h1:t.rules.length≤i) (b:Big):rm sig rs ((t.rules.zip t.ms).drop i) b i=(b,i):=by
 rw [List.drop_eq_nil_of_le (by rw [List.length_zip];omega)];rfl
theorem eI {sig:List Ctl} {b:Big} (h:fq sig b=true):ay sig b=true:=(Bool.and_eq_true_iff.1 h).1
theorem B6 {sig:List Ctl} {rs:List Rul} {a:Big} (t:Trc) (hr:fP sig rs=true) (ha:fq sig a=true) (hl:t.rules.length=t.ms.length) (hl2:t.rules.length≤1000):FnD Tryz.prog 47 [.l 3 (sig.map Ctl.D),.l 13 (rs.map Rul.D),a.D,t.D] (.tp [(nw sig rs a t).1.D,.i (nw sig rs a t).2]):=by
 have hrs:=List.all_eq_true.1 (Bool.and_eq_true_iff.1 hr).2
 have hrl:=bL (Bool.and_eq_true_iff.1 hr).1
 have f0:=E9 (eI ha)
 refine ai Tryz.func47 (fun hw W0=>?_)
 refine kgo ?_
 refine ar [0,1,7,8,10] (fun x:Nat × Big=>x.1≤t.rules.length∧fq sig x.2=true∧nw sig rs a t=rm sig rs ((t.rules.zip t.ms).drop x.1) x.2 x.1) (fun x=>t.rules.length - x.1) (fun x=>[(10010,.tk (.bx (flat x.2.D))),(11,.sy (.d (.i x.1)))]) (0,a) ⟨Nat.zero_le _,ha,rfl⟩ (fun x hx=>?_)
 obtain ⟨i,b⟩:=x
 obtain ⟨hi,hb,hp⟩:=hx
 dsimp only at hi hb hp ⊢
 rw [hp]
 refine kgo ?_
 refine aV (fun h=>?_) (fun h=>?_)
 ·have hlt:i<t.rules.length:=by omega
  have hlt2:i<t.ms.length:=by omega
  rw [pM hl i hlt hlt2]
  have hst:Ac sig rs b t.rules[i] t.ms[i]=(inR t.rules[i] 0 (rs.length - 1) && (eW (nA rs t.rules[i]).redex b t.ms[i] && (iD sig b (t.ms[i]).roots && (fT sig (nA rs t.rules[i]) b t.ms[i]).2))):=rfl
  have f1:=r9 t.rules[i] 0 (rs.length - 1)
  refine kgo ?_
  refine cIf (fun h2=>?_) (fun h2=>?_)
  ·rw [Bool.not_eq_true'] at h2
   rw [h2] at hst
   rw [if_neg (by rw [hst];exact Bool.false_ne_true)]
   refine kgo ?_
   exact iN
  rw [Bool.not_eq_false'] at h2
  obtain ⟨q,hq,hql⟩:=uR h2
  have hru:=hrs _ (List.getElem_mem hql)
  obtain ⟨r1,r2,r3,r4,r5,r6,r7,r8⟩:=jj hru
  have hrq:nA rs t.rules[i]=rs[q]:=by rw [hq,tv rs q hql]
  rw [h2,hrq,Bool.true_and] at hst
  rw [hrq]
  have f2:=zO t.ms[i] r1 (eI hb) (gO r3)
  refine kgo ?_
  refine eV (n:=q) (fun _=>?_) rfl rfl (congrArg some hq)
  refine kgo ?_
  cases h3:eW (rs[q]).redex b t.ms[i]
  ·rw [h3] at hst
   rw [if_neg (by rw [hst];exact Bool.false_ne_true)]
   refine kgo ?_
   exact iN
  rw [h3,Bool.true_and] at hst
  have f3:=xR (eI hb) t.ms[i] (fun p hp=>(lq (dX h3).2.1 p hp).2)
  refine kgo ?_
  refine cIf (fun h4=>?_) (fun h4=>?_)
  ·rw [Bool.not_eq_true'] at h4
   rw [h4] at hst
   rw [if_neg (by rw [hst];exact Bool.false_ne_true)]
   refine kgo ?_
   exact iN
  rw [Bool.not_eq_false'] at h4
  rw [h4,Bool.true_and] at hst
  have f4:=AN t.ms[i] hru (eI hb) h3
  have hag:=kZ (sig:=sig) (r:=rs[q]) (a:=b) (m:=t.ms[i])
  refine kgo ?_
  refine cIf (fun h5=>?_) (fun h5=>?_)
  ·rw [Bool.not_eq_true'] at h5
   rw [h5] at hst
   rw [if_neg (by rw [hst];exact Bool.false_ne_true)]
   refine kgo ?_
   exact iN
  rw [Bool.not_eq_false'] at h5
  rw [h5] at hst
  refine kgo ?_
  exact ab (i+1,(fT sig rs[q] b t.ms[i]).1) ⟨hlt,hag h5,by rw [hst];rfl⟩ (by show _ - (i+1)<_ - i;omega)
 rw [rV hl i (by omega)]
 refine kgo ?_
 rw [show i=t.rules.length by omega]
 exact iN
def kb (sig:List Ctl) (rs:List Rul) (a:Big) (t:Trc):Bool:=fP sig rs && (fq sig a && (decide ((t.rules.length:Int)≤20) && decide ((t.ms.length:Int)=t.rules.length)))
theorem yz (sig:List Ctl) (rs:List Rul) (a:Big) (t:Trc) (hr:∀r∈rs,r.redex.inner.length≤1048576∧r.reactum.inner.length≤1048576) (ha:a.inner.length≤1048576):FnD Tryz.prog 46 [.l 3 (sig.map Ctl.D),.l 13 (rs.map Rul.D),a.D,t.D] (.d (.b (kb sig rs a t))):=by
 have f1:=zN sig rs hr
 have f2:=zR sig a ha
 refine ai Tryz.func46 (fun hw W0=>?_)
 unfold kb
 refine kgo ?_
 cases h1:fP sig rs
 ·refine kgo ?_
  exact ax
 refine kgo ?_
 cases h2:fq sig a
 ·refine kgo ?_
  exact ax
 refine kgo ?_
 cases h3:decide ((t.rules.length:Int)≤20)
 ·refine kgo ?_
  exact ax
 refine kgo ?_
 exact ax
def al (sig:List Ctl) (rs:List Rul) (a:Big) (t:Trc):Big × Int × Bool:=if kb sig rs a t then ((nw sig rs a t).1,(nw sig rs a t).2,true) else (eE,0,false)
theorem n7 (sig:List Ctl) (rs:List Rul) (a:Big) (t:Trc) (hr:∀r∈rs,r.redex.inner.length≤1048576∧r.reactum.inner.length≤1048576) (ha:a.inner.length≤1048576):FnD Tryz.prog 11 [.l 3 (sig.map Ctl.D),.l 13 (rs.map Rul.D),a.D,t.D] (.tp [(al sig rs a t).1.D,.i (al sig rs a t).2.1,.b (al sig rs a t).2.2]):=by
 have f1:=yz sig rs a t hr ha
 have f2:kb sig rs a t=true→FnD Tryz.prog 47 [.l 3 (sig.map Ctl.D),.l 13 (rs.map Rul.D),a.D,t.D] (.tp [(nw sig rs a t).1.D,.i (nw sig rs a t).2]):=fun h=>by
  unfold kb at h
  simp only [Bool.and_eq_true,decide_eq_true_eq] at h
  exact B6 t h.1 h.2.1 (by omega) (by omega)
 refine ai Tryz.func11 (fun hw W0=>?_)
 refine kgo ?_
 refine cIf (fun h=>?_) (fun h=>?_)
 ·rw [Bool.not_eq_true'] at h
  rw [show al sig rs a t=(eE,0,false) from by unfold al;rw [h];rfl]
  refine kgo ?_
  exact iN
 ·rw [Bool.not_eq_false'] at h
  have f2:=f2 h
  rw [show al sig rs a t=((nw sig rs a t).1,((nw sig rs a t).2:Int),true) from by unfold al;rw [h];rfl]
  refine kgo ?_
  exact iN
end Go.Proofs.YtclpbhoekmecjaaGreatDoor
namespace Go.Proofs.YtclpbhoekmecjaaGreatDoor
open Go.RowKit Go.ChangeShapes Go.WideShapes Go.ChangeAt Go.Joins
set_option linter.unusedVariables false
set_option linter.unusedSimpArgs false
set_option maxRecDepth 100000
theorem own:ownKnob Tryz.prog.godebug=none:=by kernel_rfl
theorem rv:laidOutB Tryz.prog=true:=by kernel_rfl
def Cv : List (String × DataW Unit) := [("unicode/utf8.acceptRanges", Rows.laid_unicode_utf8_acceptRanges), ("unicode/utf8.first", Rows.laid_unicode_utf8_first)]
theorem CI (os:Os) (args:Array Value):laidMetH Tryz.prog Cv ((World.laidAll Tryz.prog os Cv).forCall (fun _ _=>0) ⟨#[],args,[]⟩).memory:=by
 rw [MakeChecks.laidMetH_plain _ _ _ (by kernel_rfl)];exact laidMet_laidAll _ (by kernel_rfl) (by kernel_rfl)
def LD {α:Type} (f:α→D):Lie α:=fun lo hi w cs x=>Rp w (fun b=>b<hi) (f x) cs
theorem oL {α:Type} {f:α→D} {z hi:Nat} {w:World} {v:Value} {xs:List α} (h:SlV z (LD f) 0 hi w v xs):Rp w (fun b=>b<hi) (.l z (xs.map f)) [v]:=by
 obtain ⟨a,k,h1,h2,h3,h4,h5⟩:=h
 refine ⟨a,k,by rw [h1,List.length_map],by rw [List.length_map];exact h2,h3,h4,?_⟩
 rcases h5 with h5|⟨b,o,e1,_,e2,e3⟩
 ·exact .inl (by rw [h5];rfl)
 ·refine .inr ⟨b,o,e1,e2,(ij _ _).2 fun j hj=>?_⟩
  obtain ⟨cs,q1,q2,q3⟩:=e3 j (by rw [List.length_map] at hj;exact hj)
  exact ⟨cs,q1,by rw [List.getElem_map];exact q2,q3⟩
section
variable {H:Type} {enc:TypeId × Value→H} {w:World}
theorem fI:Tryz.prog.cellsOf 3=1:=by kernel_rfl
theorem jQ:Tryz.prog.cellsOf 9=1:=by kernel_rfl
theorem jY:fx enc Tryz.prog w 3 (LD D.i):=fun fuel cs x h=>by obtain ⟨n,h1,h2⟩:=Ar Tryz.underlying3 fuel cs x h;exact ⟨n,h1,h2⟩
theorem tQ:fx enc Tryz.prog w 9 (LD D.s):=fun fuel cs x h=>by obtain ⟨n,h1,h2⟩:=sB Tryz.underlying9 fuel cs x h;exact ⟨n,h1,h2⟩
theorem lQ:Tryz.prog.cellsOf 80=3:=by kernel_rfl
theorem qO:fx enc Tryz.prog w 80 (LD Ctl.D):=by
 intro fuel cs x h
 obtain ⟨hl,n,hf⟩:=eT Tryz.underlying80 h
 rw [lQ] at hl
 obtain ⟨c0,c1,c2,rfl⟩:=Fv hl
 obtain ⟨y0,e0⟩:=hf 0 _ rfl
 replace e0:DataW.trod enc Tryz.prog w 0 (fun _=>true) true n 9 [c0]=some y0:=by simpa [jQ] using e0
 obtain ⟨x0,b0⟩:=tQ _ _ _ e0
 obtain ⟨y1,e1⟩:=hf 1 _ rfl
 replace e1:DataW.trod enc Tryz.prog w 0 (fun _=>true) true n 3 [c1]=some y1:=by simpa [fI] using e1
 obtain ⟨x1,b1⟩:=jY _ _ _ e1
 obtain ⟨y2,e2⟩:=hf 2 _ rfl
 replace e2:DataW.trod enc Tryz.prog w 0 (fun _=>true) true n 3 [c2]=some y2:=by simpa [fI] using e2
 obtain ⟨x2,b2⟩:=jY _ _ _ e2
 exact ⟨⟨x0,x1,x2⟩,[c0],_,rfl,b0,[c1],_,rfl,b1,[c2],_,rfl,b2,rfl⟩
theorem gI:Tryz.prog.cellsOf 25=1:=by kernel_rfl
theorem gJ:∀fuel cs x,DataW.trod enc Tryz.prog w 0 (fun _=>true) true fuel 25 cs=some x→∃v xs,cs = [v]∧Rp w (fun b=>b<w.heap.size) (.l 1 (List.map D.i xs)) [v]:=fun fuel cs x h=>by obtain ⟨v,xs,h1,h2⟩:=eU Tryz.underlying25 fI (by decide) jY fuel cs x h;exact ⟨v,xs,h1,oL h2⟩
theorem pZ:Tryz.prog.cellsOf 125=3:=by kernel_rfl
theorem xM:fx enc Tryz.prog w 125 (LD Nd.D):=by
 intro fuel cs x h
 obtain ⟨hl,n,hf⟩:=eT Tryz.underlying125 h
 rw [pZ] at hl
 obtain ⟨c0,c1,c2,rfl⟩:=Fv hl
 obtain ⟨y0,e0⟩:=hf 0 _ rfl
 replace e0:DataW.trod enc Tryz.prog w 0 (fun _=>true) true n 3 [c0]=some y0:=by simpa [fI] using e0
 obtain ⟨x0,b0⟩:=jY _ _ _ e0
 obtain ⟨y1,e1⟩:=hf 1 _ rfl
 replace e1:DataW.trod enc Tryz.prog w 0 (fun _=>true) true n 3 [c1]=some y1:=by simpa [fI] using e1
 obtain ⟨x1,b1⟩:=jY _ _ _ e1
 obtain ⟨y2,e2⟩:=hf 2 _ rfl
 replace e2:DataW.trod enc Tryz.prog w 0 (fun _=>true) true n 25 [c2]=some y2:=by simpa [gI] using e2
 obtain ⟨v2,x2,h2,b2⟩:=gJ _ _ _ e2
 obtain rfl:=(List.cons.inj h2).1
 exact ⟨⟨x0,x1,x2⟩,[c0],_,rfl,b0,[c1],_,rfl,b1,[c2],_,rfl,b2,rfl⟩
theorem pR:Tryz.prog.cellsOf 128=2:=by kernel_rfl
theorem yi:fx enc Tryz.prog w 128 (LD Wr.D):=by
 intro fuel cs x h
 obtain ⟨hl,n,hf⟩:=eT Tryz.underlying128 h
 rw [pR] at hl
 obtain ⟨c0,c1,rfl⟩:=Eo hl
 obtain ⟨y0,e0⟩:=hf 0 _ rfl
 replace e0:DataW.trod enc Tryz.prog w 0 (fun _=>true) true n 9 [c0]=some y0:=by simpa [jQ] using e0
 obtain ⟨x0,b0⟩:=tQ _ _ _ e0
 obtain ⟨y1,e1⟩:=hf 1 _ rfl
 replace e1:DataW.trod enc Tryz.prog w 0 (fun _=>true) true n 3 [c1]=some y1:=by simpa [fI] using e1
 obtain ⟨x1,b1⟩:=jY _ _ _ e1
 exact ⟨⟨x0,x1⟩,[c0],_,rfl,b0,[c1],_,rfl,b1,rfl⟩
theorem vO:Tryz.prog.cellsOf 24=1:=by kernel_rfl
theorem vE:∀fuel cs x,DataW.trod enc Tryz.prog w 0 (fun _=>true) true fuel 24 cs=some x→∃v xs,cs = [v]∧Rp w (fun b=>b<w.heap.size) (.l 3 (List.map Nd.D xs)) [v]:=fun fuel cs x h=>by obtain ⟨v,xs,h1,h2⟩:=eU Tryz.underlying24 pZ (by decide) xM fuel cs x h;exact ⟨v,xs,h1,oL h2⟩
theorem qV:Tryz.prog.cellsOf 26=1:=by kernel_rfl
theorem rA:∀fuel cs x,DataW.trod enc Tryz.prog w 0 (fun _=>true) true fuel 26 cs=some x→∃v xs,cs = [v]∧Rp w (fun b=>b<w.heap.size) (.l 1 (List.map D.s xs)) [v]:=fun fuel cs x h=>by obtain ⟨v,xs,h1,h2⟩:=eU Tryz.underlying26 jQ (by decide) tQ fuel cs x h;exact ⟨v,xs,h1,oL h2⟩
theorem uA:Tryz.prog.cellsOf 27=1:=by kernel_rfl
theorem vG:∀fuel cs x,DataW.trod enc Tryz.prog w 0 (fun _=>true) true fuel 27 cs=some x→∃v xs,cs = [v]∧Rp w (fun b=>b<w.heap.size) (.l 2 (List.map Wr.D xs)) [v]:=fun fuel cs x h=>by obtain ⟨v,xs,h1,h2⟩:=eU Tryz.underlying27 pR (by decide) yi fuel cs x h;exact ⟨v,xs,h1,oL h2⟩
theorem ju:Tryz.prog.cellsOf 29=6:=by kernel_rfl
theorem jq:fx enc Tryz.prog w 29 (LD Big.D):=by
 intro fuel cs x h
 obtain ⟨hl,n,hf⟩:=eT Tryz.underlying29 h
 rw [ju] at hl
 obtain ⟨c0,c1,c2,c3,c4,c5,rfl⟩:=GO hl
 obtain ⟨y0,e0⟩:=hf 0 _ rfl
 replace e0:DataW.trod enc Tryz.prog w 0 (fun _=>true) true n 3 [c0]=some y0:=by simpa [fI] using e0
 obtain ⟨x0,b0⟩:=jY _ _ _ e0
 obtain ⟨y1,e1⟩:=hf 1 _ rfl
 replace e1:DataW.trod enc Tryz.prog w 0 (fun _=>true) true n 24 [c1]=some y1:=by simpa [vO] using e1
 obtain ⟨v1,x1,h1,b1⟩:=vE _ _ _ e1
 obtain rfl:=(List.cons.inj h1).1
 obtain ⟨y2,e2⟩:=hf 2 _ rfl
 replace e2:DataW.trod enc Tryz.prog w 0 (fun _=>true) true n 25 [c2]=some y2:=by simpa [gI] using e2
 obtain ⟨v2,x2,h2,b2⟩:=gJ _ _ _ e2
 obtain rfl:=(List.cons.inj h2).1
 obtain ⟨y3,e3⟩:=hf 3 _ rfl
 replace e3:DataW.trod enc Tryz.prog w 0 (fun _=>true) true n 3 [c3]=some y3:=by simpa [fI] using e3
 obtain ⟨x3,b3⟩:=jY _ _ _ e3
 obtain ⟨y4,e4⟩:=hf 4 _ rfl
 replace e4:DataW.trod enc Tryz.prog w 0 (fun _=>true) true n 26 [c4]=some y4:=by simpa [qV] using e4
 obtain ⟨v4,x4,h4,b4⟩:=rA _ _ _ e4
 obtain rfl:=(List.cons.inj h4).1
 obtain ⟨y5,e5⟩:=hf 5 _ rfl
 replace e5:DataW.trod enc Tryz.prog w 0 (fun _=>true) true n 27 [c5]=some y5:=by simpa [uA] using e5
 obtain ⟨v5,x5,h5,b5⟩:=vG _ _ _ e5
 obtain rfl:=(List.cons.inj h5).1
 exact ⟨⟨x0,x1,x2,x3,x4,x5⟩,[c0],_,rfl,b0,[c1],_,rfl,b1,[c2],_,rfl,b2,[c3],_,rfl,b3,[c4],_,rfl,b4,[c5],_,rfl,b5,rfl⟩
theorem qc:Tryz.prog.cellsOf 83=13:=by kernel_rfl
theorem ym:fx enc Tryz.prog w 83 (LD Rul.D):=by
 intro fuel cs x h
 obtain ⟨hl,n,hf⟩:=eT Tryz.underlying83 h
 rw [qc] at hl
 obtain ⟨c0,c1,c2,c3,c4,c5,c6,c7,c8,c9,c10,c11,c12,rfl⟩:=FH hl
 obtain ⟨y0,e0⟩:=hf 0 _ rfl
 replace e0:DataW.trod enc Tryz.prog w 0 (fun _=>true) true n 29 [c0,c1,c2,c3,c4,c5]=some y0:=by simpa [ju] using e0
 obtain ⟨x0,b0⟩:=jq _ _ _ e0
 obtain ⟨y1,e1⟩:=hf 1 _ rfl
 replace e1:DataW.trod enc Tryz.prog w 0 (fun _=>true) true n 29 [c6,c7,c8,c9,c10,c11]=some y1:=by simpa [ju] using e1
 obtain ⟨x1,b1⟩:=jq _ _ _ e1
 obtain ⟨y2,e2⟩:=hf 2 _ rfl
 replace e2:DataW.trod enc Tryz.prog w 0 (fun _=>true) true n 25 [c12]=some y2:=by simpa [gI] using e2
 obtain ⟨v2,x2,h2,b2⟩:=gJ _ _ _ e2
 obtain rfl:=(List.cons.inj h2).1
 exact ⟨⟨x0,x1,x2⟩,[c0,c1,c2,c3,c4,c5],_,rfl,b0,[c6,c7,c8,c9,c10,c11],_,rfl,b1,[c12],_,rfl,b2,rfl⟩
theorem og:Tryz.prog.cellsOf 130=2:=by kernel_rfl
theorem uC:fx enc Tryz.prog w 130 (LD Mat.D):=by
 intro fuel cs x h
 obtain ⟨hl,n,hf⟩:=eT Tryz.underlying130 h
 rw [og] at hl
 obtain ⟨c0,c1,rfl⟩:=Eo hl
 obtain ⟨y0,e0⟩:=hf 0 _ rfl
 replace e0:DataW.trod enc Tryz.prog w 0 (fun _=>true) true n 25 [c0]=some y0:=by simpa [gI] using e0
 obtain ⟨v0,x0,h0,b0⟩:=gJ _ _ _ e0
 obtain rfl:=(List.cons.inj h0).1
 obtain ⟨y1,e1⟩:=hf 1 _ rfl
 replace e1:DataW.trod enc Tryz.prog w 0 (fun _=>true) true n 25 [c1]=some y1:=by simpa [gI] using e1
 obtain ⟨v1,x1,h1,b1⟩:=gJ _ _ _ e1
 obtain rfl:=(List.cons.inj h1).1
 exact ⟨⟨x0,x1⟩,[c0],_,rfl,b0,[c1],_,rfl,b1,rfl⟩
theorem sJ:Tryz.prog.cellsOf 30=1:=by kernel_rfl
theorem tu:∀fuel cs x,DataW.trod enc Tryz.prog w 0 (fun _=>true) true fuel 30 cs=some x→∃v xs,cs = [v]∧Rp w (fun b=>b<w.heap.size) (.l 2 (List.map Mat.D xs)) [v]:=fun fuel cs x h=>by obtain ⟨v,xs,h1,h2⟩:=eU Tryz.underlying30 og (by decide) uC fuel cs x h;exact ⟨v,xs,h1,oL h2⟩
theorem tW:Tryz.prog.cellsOf 32=2:=by kernel_rfl
theorem tZ:fx enc Tryz.prog w 32 (LD Trc.D):=by
 intro fuel cs x h
 obtain ⟨hl,n,hf⟩:=eT Tryz.underlying32 h
 rw [tW] at hl
 obtain ⟨c0,c1,rfl⟩:=Eo hl
 obtain ⟨y0,e0⟩:=hf 0 _ rfl
 replace e0:DataW.trod enc Tryz.prog w 0 (fun _=>true) true n 25 [c0]=some y0:=by simpa [gI] using e0
 obtain ⟨v0,x0,h0,b0⟩:=gJ _ _ _ e0
 obtain rfl:=(List.cons.inj h0).1
 obtain ⟨y1,e1⟩:=hf 1 _ rfl
 replace e1:DataW.trod enc Tryz.prog w 0 (fun _=>true) true n 30 [c1]=some y1:=by simpa [sJ] using e1
 obtain ⟨v1,x1,h1,b1⟩:=tu _ _ _ e1
 obtain rfl:=(List.cons.inj h1).1
 exact ⟨⟨x0,x1⟩,[c0],_,rfl,b0,[c1],_,rfl,b1,rfl⟩
theorem pu:∀fuel cs x,DataW.trod enc Tryz.prog w 0 (fun _=>true) true fuel 22 cs=some x→∃v xs,cs = [v]∧Rp w (fun b=>b<w.heap.size) (.l 3 (List.map Ctl.D xs)) [v]:=fun fuel cs x h=>by obtain ⟨v,xs,h1,h2⟩:=eU Tryz.underlying22 lQ (by decide) qO fuel cs x h;exact ⟨v,xs,h1,oL h2⟩
theorem tV:∀fuel cs x,DataW.trod enc Tryz.prog w 0 (fun _=>true) true fuel 23 cs=some x→∃v xs,cs = [v]∧Rp w (fun b=>b<w.heap.size) (.l 13 (List.map Rul.D xs)) [v]:=fun fuel cs x h=>by obtain ⟨v,xs,h1,h2⟩:=eU Tryz.underlying23 qc (by decide) ym fuel cs x h;exact ⟨v,xs,h1,oL h2⟩
theorem DB {t:TypeId} {fs:Array Field} {α:Type} {f:α→D} {b0:Nat} {r:Reach} {v:Value} {d:DataW H} {p:List MemPlace} (hs:Tryz.prog.underlying t=some (.struct fs)) (ho:fx enc Tryz.prog w t (LD f))
 (hv:Value.okWide Tryz.prog w r b0 t v) (h:DataW.Trod enc Tryz.prog w 0 (fun _=>true) true t v d p):∃(cs:List Value) (x:α),v=.agg cs.toArray∧Rp w (fun b=>b<w.heap.size) (f x) cs:=by
 obtain ⟨cs,rfl,_⟩:=okWide_struct hs hv
 obtain ⟨fuel,hf⟩:=h
 obtain ⟨x,hx⟩:=ho _ _ _ hf
 exact ⟨cs.toList,x,by simp,by simpa [Value.cells,LD] using hx⟩
theorem Af {t e:TypeId} {α:Type} {f:α→D} {z b0:Nat} {r:Reach} {v:Value} {d:DataW H} {p:List MemPlace} (hs:Tryz.prog.underlying t=some (.slice e))
 (ho:∀fuel cs x,DataW.trod enc Tryz.prog w 0 (fun _=>true) true fuel t cs=some x→∃v xs,cs = [v]∧Rp w (fun b=>b<w.heap.size) (.l z (List.map f xs)) [v])
 (hv:Value.okWide Tryz.prog w r b0 t v) (h:DataW.Trod enc Tryz.prog w 0 (fun _=>true) true t v d p):∃(u:Value) (xs:List α),v=u∧Rp w (fun b=>b<w.heap.size) (.l z (List.map f xs)) [u]:=by
 obtain ⟨a,n,k,rfl⟩:=okWide_slice hs hv
 obtain ⟨fuel,hf⟩:=h
 obtain ⟨u,xs,e,hx⟩:=ho _ _ _ hf
 simp [Value.cells] at e
 exact ⟨u,xs,e,hx⟩
end
theorem Gf {f:FuncId} {ds:List D} (h:FnD Tryz.prog f ds (.d (.b true))) {vs:List Value} {w:World} (hv:DVs w (fun b=>b<w.heap.size) ds vs):Calls Tryz.prog f vs.toArray w fun e w'=>e=.returned (.bool true)∧Ext w w':=
 (h.calls _ w vs hv (fun _ h=>h)).mono fun e w' ⟨v,h1,h2,h3⟩=>⟨by rw [h1,show v=.bool true from (List.cons.inj (show [v] = [Value.bool true] from h3)).1],h2⟩
end Go.Proofs.YtclpbhoekmecjaaGreatDoor
namespace Go.Proofs.YtclpbhoekmecjaaGreatDoor
open Go.RowKit
set_option linter.unusedVariables false
set_option linter.unusedSimpArgs false
theorem aL.upd2 {W0:cf} {N:Nat} {σ:Env} {a:Act} {w w':World} {c:Cx} (h:aL W0 N σ a w c) {i:Nat} {t u:Tk} (hi:au σ i=some (.tk t)) (hg:Chg (c.T i) w w') (hu:fR c.F w w'→u.ok c w' (c.ρ i) (c.T i)) :
 aL W0 N ((i,.tk u) :: σ) a w' c:=by
 obtain ⟨hAi,_,hti⟩:=h.tok i t hi
 have hS:∀b,c.T i b→¬c.F b:=fun b hb=>(hti b hb).1
 have hag:=h.agF hg hS
 refine ⟨h.ext' hg (fun b hb=>(hti b hb).2.2),h.old,fun b hb=>Nat.lt_of_lt_of_le (h.lt b hb) hg.size,h.size,h.defers,fun j hj=>?_,fun j x hj=>?_,fun j k x y hj hk hne b=>?_,fun t' s ht'=>?_⟩
 ·rw [ah];split
  ·simp
  ·exact h.all j hj
 ·rw [ah] at hj
  by_cases e:i=j
  ·subst e
   rw [if_pos rfl] at hj;cases hj
   exact ⟨hAi,hu hag,fun b hb=>⟨(hti b hb).1,Nat.lt_of_lt_of_le (hti b hb).2.1 hg.size,(hti b hb).2.2⟩⟩
  ·rw [if_neg e] at hj
   obtain ⟨k1,k2,k3⟩:=h.tok j x hj
   exact ⟨k1,Tk.keep (Cx.Le.refl c) hg.size hag (fun b hb hl=>hg.block b hl (fun hs=>h.off i j t x hi hj e b hs hb)) x _ k2,fun b hb=>⟨(k3 b hb).1,Nat.lt_of_lt_of_le (k3 b hb).2.1 hg.size,(k3 b hb).2.2⟩⟩
 ·have conv:∀j x,au ((i,.tk u) :: σ) j=some (.tk x)→∃x',au σ j=some (.tk x'):=fun j x hj=>by
   rw [ah] at hj
   by_cases e:i=j
   ·subst e;exact ⟨t,hi⟩
   ·rw [if_neg e] at hj;exact ⟨x,hj⟩
  obtain ⟨x',hx'⟩:=conv j x hj
  obtain ⟨y',hy'⟩:=conv k y hk
  exact h.off j k x' y' hx' hy' hne b
 ·rw [ah] at ht'
  split at ht'
  ·cases ht'
  ·obtain ⟨x,h1,h2⟩:=h.tmp t' s ht'
   exact ⟨x,h1,Sy.keep (Cx.Le.refl c) hag s x h2⟩
structure FnS (P:Program) (f:FuncId) (z e:Nat) (xs ds ys:List D):Prop where
 enter:∀args w,(callFunc f args).run P w=.ok (.enter f args) w
 calls:∀(F S:BS) (w:World) (v:Value) (vs:List Value),(Tk.row z e xs).ok (Cx.of F) w v S→DVs w F ds vs→(∀b,F b→b<w.heap.size)→(∀b,S b→¬F b∧b<w.heap.size) →
  Calls P f (v :: vs).toArray w fun en w'=>en=.returned (.tuple #[])∧Chg S w w'∧(Tk.row z e ys).ok (Cx.of F) w' v S
structure FnC (P:Program) (f:FuncId) (z e:Nat) (xs ds ys:List D):Prop where
 enter:∀args w,(callFunc f args).run P w=.ok (.enter f args) w
 calls:∀(F S:BS) (w:World) (v:Value) (vs:List Value),(Tk.row z e xs).ok (Cx.of F) w v S→DVs w F ds vs→(∀b,F b→b<w.heap.size)→(∀b,S b→¬F b∧b<w.heap.size) →
  Calls P f (v :: vs).toArray w fun en w'=>∃u,en=.returned u∧Chg S w w'∧(Tk.row z e ys).ok (Cx.of F) w' u S
section
variable {P:Program} {ops:Array Oper} {W0:cf} {N:Nat} {Fin:Us→Env→Prop} {os:List Oper} {us:Us} {pk fk:List Nat} {σ:Env} {g:Option (Nat × Bool)} {gk:List Nat} {d ty ty' f:Nat} {pos:String} {after:Array Edge} {at':Array TypeId} {ds:List D}
theorem DA {z e:Nat} {xs:List D} {c:Cx} {w:World} {v:Value} {S:BS} (h:(Tk.row z e xs).ok c w v S):(Tk.row z e xs).ok (Cx.of c.F) w v S:=h
theorem Bn {z e:Nat} {xs:List D} {c:Cx} {w:World} {v:Value} {S:BS} (h:(Tk.row z e xs).ok (Cx.of c.F) w v S):(Tk.row z e xs).ok c w v S:=h
theorem aX {x:Operand} {rest:List Operand} {i z e:Nat} {xs ys:List D} (h:Der P ops W0 N Fin os (us++[((d :: (gk++(i :: (kx x++kxs rest))))++pk,([d,i])++fk)]) [] [] ((d,.sy (.v (.tuple #[]))) :: (i,.tk (.row z e ys)) :: σ)) (hx:ev σ x=some (.k i):=by rfl) (hi:au σ i=some (.tk (.row z e xs)):=by rfl) (hr:evs σ rest=some ds:=by rfl) (hf:FnS P f z e xs ds ys:=by assumption) (hg:gst ops σ g=some (true,gk):=by rfl) (hN:Nat.blt d N=true:=by rfl) (hs:aM ((i,.tk (.row z e ys)) :: σ) d=true:=by rfl) (hu:Nat.beq i d=false:=by rfl):Der P ops W0 N Fin (⟨some d,.call { callee:=.value (.func f),args:=(x :: rest).toArray,argTypes:=at' },ty,pos,after,g⟩ :: os) us pk fk σ:=
 me (.v (.tuple #[])) (i :: (kx x++kxs rest)) [(i,.tk (.row z e ys))] (fun σ' c a w hk hc=>by
  have hi':=(hk i (by simp)).trans hi
  obtain ⟨hA,hT,hti⟩:=hc.tok i _ hi'
  obtain ⟨_,hv⟩:=av hc (af hx (fun κ hκ=>hk κ (by simp [hκ])))
  unfold Oper.wp
  rw [b9 hf.enter rfl]
  refine (hf.calls c.F (c.T i) w (a.eval x) (rest.map a.eval) (by rw [hv];exact DA hT) (nj hc rest ds hr (fun κ hκ=>hk κ (by simp [hκ]))) hc.lt (fun b hb=>⟨(hti b hb).1,(hti b hb).2.1⟩)).mono ?_
  rintro en w' ⟨rfl,hch,hok⟩
  rw [hv] at hok
  exact ⟨_,c,rfl,hc.upd2 hi' hch (fun _=>Bn hok),rfl⟩) h hg hN hs (by simp [hu])
theorem bu {x:Operand} {rest:List Operand} {i z e:Nat} {xs ys:List D} (h:Der P ops W0 N Fin os (us++[((d :: (gk++(i :: (10000+d) :: (kx x++kxs rest))))++pk,([d,10000+d,i])++fk)]) [] [] ((d,.sy (.k (10000+d))) :: (10000+d,.tk (.row z e ys)) :: (i,.no) :: σ)) (hx:ev σ x=some (.k i):=by rfl) (hi:au σ i=some (.tk (.row z e xs)):=by rfl) (hn:au σ (10000+d)=none:=by rfl) (hr:evs σ rest=some ds:=by rfl) (hf:FnC P f z e xs ds ys:=by assumption) (hg:gst ops σ g=some (true,gk):=by rfl) (hN:Nat.blt d N=true:=by rfl) (hs:aM ((10000+d,.tk (.row z e ys)) :: (i,.no) :: σ) d=true:=by rfl) (hu:(Nat.beq (10000+d) d || Nat.beq i d || Nat.beq i (10000+d))=false:=by rfl):Der P ops W0 N Fin (⟨some d,.call { callee:=.value (.func f),args:=(x :: rest).toArray,argTypes:=at' },ty,pos,after,g⟩ :: os) us pk fk σ:=by
 simp only [Bool.or_eq_false_iff] at hu
 refine me (.k (10000+d)) (i :: (10000+d) :: (kx x++kxs rest)) [(10000+d,.tk (.row z e ys)),(i,.no)] (fun σ' c a w hk hc=>?_) h hg hN hs (by simp [hu.1.1,hu.1.2])
 have hi':=(hk i (by simp)).trans hi
 obtain ⟨hA,hT,hti⟩:=hc.tok i _ hi'
 obtain ⟨_,hv⟩:=av hc (af hx (fun κ hκ=>hk κ (by simp [hκ])))
 unfold Oper.wp
 rw [b9 hf.enter rfl]
 refine (hf.calls c.F (c.T i) w (a.eval x) (rest.map a.eval) (by rw [hv];exact DA hT) (nj hc rest ds hr (fun κ hκ=>hk κ (by simp [hκ]))) hc.lt (fun b hb=>⟨(hti b hb).1,(hti b hb).2.1⟩)).mono ?_
 rintro en w' ⟨u,rfl,hch,hok⟩
 have h1:=hc.eff (τ:=[]) hi' hch c.F (fun _ h=>h) (fun b hb=>.inl hb) (fun b hb=>Nat.lt_of_lt_of_le (hc.lt b hb) hch.size)
 have h2:=h1.new (i:=10000+d) (t:=.row z e ys) (v:=u) (S:=c.T i) (by rw [ah,if_neg (fun e=>by rw [e] at hu;simp at hu)];exact (hk _ (by simp)).trans hn) (Bn hok) (fun b hb=>⟨(hti b hb).1,Nat.lt_of_lt_of_le (hti b hb).2.1 hch.size,(hti b hb).2.2⟩) (fun j t hj b hb=>by
  rw [ah] at hj
  split at hj
  ·cases hj
  ·rename_i hne
   exact hc.off i j _ t hi' hj hne b hb)
 exact ⟨u,_,rfl,h2,.inr rfl,(if_pos rfl).symm⟩
end
end Go.Proofs.YtclpbhoekmecjaaGreatDoor
namespace Go.Proofs.YtclpbhoekmecjaaGreatDoor
open Go.RowKit Go.Sort Go.Proofs
set_option linter.unusedVariables false
set_option linter.unusedSimpArgs false
set_option linter.unusedSectionVars false
section
variable {α:Type} [Inhabited α] (enc:α→Value)
theorem oE {w:World} {g:Nat} {cur:Array Value} {e:TypeId} {ss:List α} (hb:w.heap[g]? = some (.cells cur e (0,0))) (ht:cur.toList.take ss.length=ss.map enc):Go.Sort.Holds enc w g 0 ss.toArray:=by
 intro j hj
 have hj':j<ss.length:=by simpa using hj
 refine ⟨?_,by simp [World.frozen?,hb]⟩
 have h1:(cur.toList.take ss.length)[j]? = (ss.map enc)[j]?:=by rw [ht]
 rw [List.getElem?_take_of_lt hj'] at h1
 simp only [World.cell?,hb,Nat.zero_add]
 simp only [Option.isSome_none,Bool.false_eq_true,if_false]
 rw [← Array.getElem?_toList,h1]
 simp [hj']
theorem wZ {w:World} {g n:Nat} {os:Array Obj} {cur:Array Value} {e:TypeId} {fr:Nat × Nat} (d:Array α) (hb:w.heap[g]? = some (.cells cur e fr)) :
 (grow (putRow enc (Sort.ahead w n) g 0 d) os).heap[g]? = some (.cells (putCells enc 0 d cur) e fr):=by
 have hg:g<w.heap.size:=(Array.getElem?_eq_some_iff.1 hb).1
 rw [heap_grow_old _ _ (by simpa using hg)]
 simp [putRow,mapBlock,Sort.ahead,Array.getElem?_modify,hb,onCells]
theorem jE {w:World} {g n:Nat} {os:Array Obj} (d:Array α):w.grownBy (grow (putRow enc (Sort.ahead w n) g 0 d) os) (some g):=by
 refine ⟨rfl,rfl,rfl,by simp,fun k hk hne=>?_⟩
 rw [heap_grow_old _ _ (by simpa using hk)]
 have:g≠k:=fun e=>hne (by rw [e])
 simp [putRow,mapBlock,Sort.ahead,Array.getElem?_modify,this]
theorem wR (cur:Array Value) (ts us:List α) (h:(ts++us).length≤cur.size):(putCells enc 0 (ts++us).toArray cur).toList.take ts.length=ts.map enc:=by
 apply List.ext_getElem?
 intro j
 rw [List.length_append] at h
 by_cases hj:j<ts.length
 ·rw [List.getElem?_take_of_lt hj,Array.getElem?_toList]
  simp [putCells,hj,show j<cur.size by omega,show j<ts.length+us.length by omega]
 ·rw [List.getElem?_take_eq_none (by omega),List.getElem?_eq_none (by simp;omega)]
theorem uS {w:World} {g cap m n:Nat} {e:TypeId} {os:Array Obj} {cur:Array Value} {ts us:List α} (hm:(ts++us).length=m) (hb:w.heap[g]? = some (.cells cur e (0,0)))
 (h1:m≤cap) (h2:cap≤maxLen) (h3:cur.size=cap * 1) :
 (grow (putRow enc (Sort.ahead w n) g 0 (ts++us).toArray) os).ownsRow 0 e 1 (.slice (some ⟨g,0,none⟩) ts.length cap) ts.length (ts.map enc):=by
 have hle:ts.length≤m:=by rw [← hm,List.length_append];omega
 exact ⟨by simp,.inr ⟨g,cap,_,rfl,Nat.zero_le _,wZ enc _ hb,by omega,h2,by simp [putCells,h3],by rw [Nat.mul_one];exact wR enc cur ts us (by omega)⟩⟩
end
structure vm {α:Type} (enc:α→Value) (f:α→D):Prop where
 val:∀w S x cs,Rp w S (f x) cs→cs = [enc x]
 any:∀w w' S S' x cs,Rp w S (f x) cs→Rp w' S' (f x) cs
theorem Dx:vm (Value.int .i64) D.i:=⟨fun _ _ _ _ h=>h.1,fun _ _ _ _ _ _ h=>h⟩
theorem DF:vm _root_.Go.Proofs.encStr (fun l:List UInt8=>D.s ⟨l.toArray⟩):=⟨fun _ _ _ _ h=>h.1,fun _ _ _ _ _ _ h=>h⟩
section
variable {α:Type} [Inhabited α] {enc:α→Value} {fD:α→D} {P:Program} {f:FuncId} {e:TypeId}
theorem GU (hc:vm enc fD) {F S:BS} {w:World} {v:Value} {xs:List α} (h:(Tk.row 1 e (xs.map fD)).ok (Cx.of F) w v S):(xs = []∧∃a k,v=.slice a 0 k)∨∃g cap cur,v=.slice (some ⟨g,0,none⟩) xs.length cap∧S g∧w.heap[g]? = some (.cells cur e (0,0))∧xs.length≤cap∧cap≤maxLen∧cur.size=cap * 1∧cur.toList.take xs.length=xs.map enc∧∀x∈xs,∀w' S',Rp w' S' (fD x) [enc x]:=by
 rcases h with ⟨hd,a,hv⟩|⟨cells,own,hS,hel⟩
 ·exact .inl ⟨List.map_eq_nil_iff.1 hd,a,0,hv⟩
 have hel:∀j (h:j<xs.length),∃cs,cs.length=1∧Rp w (Cx.of F).F (fD xs[j]) cs∧∀t u,cs[t]? = some u→cells[j * 1+t]? = some u:=fun j h=>by
  obtain ⟨cs,q1,q2,q3⟩:=hel j (by rw [List.length_map];exact h)
  rw [List.getElem_map] at q2
  exact ⟨cs,q1,q2,q3⟩
 rw [List.length_map] at own
 have hcells:cells=xs.map enc:=by
  have hl:=own.1
  rw [Nat.mul_one] at hl
  apply List.ext_getElem (by simp [hl])
  intro j h1 h2
  obtain ⟨cs,q1,q2,q3⟩:=hel j (by simpa using h2)
  have e1:=hc.val _ _ _ _ q2
  subst e1
  have:=q3 0 _ rfl
  rw [Nat.mul_one,Nat.add_zero,List.getElem?_eq_getElem h1] at this
  rw [List.getElem_map];exact Option.some.inj this
 have hall:∀x∈xs,∀w' S',Rp w' S' (fD x) [enc x]:=fun x hx w' S'=>by
  obtain ⟨j,hj,rfl⟩:=List.mem_iff_getElem.1 hx
  obtain ⟨cs,q1,q2,q3⟩:=hel j hj
  have e1:=hc.val _ _ _ _ q2
  subst e1
  exact hc.any _ _ _ _ _ _ q2
 rcases own.2 with ⟨hv,hn⟩|⟨g,cap,cur,hv,_,hg,h5,h6,h7,h8⟩
 ·exact .inl ⟨List.eq_nil_of_length_eq_zero hn,none,0,hv⟩
 ·exact .inr ⟨g,cap,cur,hv,hS g (by rw [hv];rfl),hg,h5,h6,h7,by rw [← hcells,← Nat.mul_one xs.length];exact h8,hall⟩
theorem n5 {ys:List α} (hall:∀(w':World) (S':BS),∀y∈ys,Rp w' S' (fD y) [enc y]) {F S:BS} {w':World} {g cap:Nat} (own:w'.ownsRow 0 e 1 (.slice (some ⟨g,0,none⟩) ys.length cap) ys.length (ys.map enc)) (hS:S g):(Tk.row 1 e (ys.map fD)).ok (Cx.of F) w' (.slice (some ⟨g,0,none⟩) ys.length cap) S:=by
 refine .inr ⟨ys.map enc,by rw [List.length_map];exact own,fun k hk=>by cases hk;exact hS,fun j hj=>⟨[enc (ys[j]'(by simpa using hj))],rfl,?_,fun t u ht=>?_⟩⟩
 ·rw [List.getElem_map];exact hall _ _ _ (List.getElem_mem _)
 ·rcases t with _|t
  ·simp at ht hj
   subst ht
   simp [hj]
  ·simp at ht
theorem Ds (hc:vm enc fD) {xs ys:List α} (henter:∀args w,(callFunc f args).run P w=.ok (.enter f args) w) (hmem:∀y∈ys,y∈xs) (hlen:ys.length=xs.length) (hno:∀p cap w,Calls P f #[.slice p 0 cap] w fun en w'=>en=.returned (.tuple #[])∧w'=w)
 (hyes:∀g cap w,Go.Sort.Holds enc w g 0 xs.toArray→g<w.heap.size→Calls P f #[.slice (some ⟨g,0,none⟩) xs.length cap] w fun en w'=>en=.returned (.tuple #[])∧∃n os,w'=grow (putRow enc (Sort.ahead w n) g 0 ys.toArray) os):FnS P f 1 e (xs.map fD) [] (ys.map fD):=by
 refine ⟨henter,fun F S w v vs hv hvs hF hS=>?_⟩
 cases (show vs = [] from hvs)
 rcases GU hc hv with ⟨rfl,a,k,rfl⟩|⟨g,cap,cur,rfl,hSg,hb,h5,h6,h7,h8,hall⟩
 ·have:ys = []:=List.eq_nil_of_length_eq_zero hlen
  subst this
  refine (hno a k w).mono ?_
  rintro en w' ⟨rfl,rfl⟩
  exact ⟨rfl,⟨rfl,rfl,rfl,Nat.le_refl _,fun _ _ _=>rfl⟩,hv⟩
 ·refine (hyes g cap w (oE enc hb h8) (Array.getElem?_eq_some_iff.1 hb).1).mono ?_
  rintro en w' ⟨rfl,n,os,rfl⟩
  refine ⟨rfl,Chg.grown (jE enc _) (fun k hk=>by cases hk;exact hSg),?_⟩
  have own:=uS enc (n:=n) (os:=os) (ts:=ys) (us:=[]) (m:=xs.length) (by simp [hlen]) hb h5 h6 h7
  rw [List.append_nil] at own
  rw [← hlen]
  exact n5 (fun w' S' y hy=>hall y (hmem y hy) w' S') own hSg
theorem Dk (hc:vm enc fD) {xs ys us:List α} (henter:∀args w,(callFunc f args).run P w=.ok (.enter f args) w) (hmem:∀y∈ys,y∈xs) (hlen:(ys++us).length=xs.length) (hno:∀p cap w,Calls P f #[.slice p 0 cap] w fun en w'=>en=.returned (.slice p 0 cap)∧w'=w)
 (hyes:∀g cap w,Go.Sort.Holds enc w g 0 xs.toArray→xs.length≤cap→xs.length≤maxLen→Calls P f #[.slice (some ⟨g,0,none⟩) xs.length cap] w fun en w'=>en=.returned (.slice (some ⟨g,0,none⟩) ys.length cap)∧∃q,w'=putRow enc (Sort.ahead w q) g 0 (ys++us).toArray):FnC P f 1 e (xs.map fD) [] (ys.map fD):=by
 refine ⟨henter,fun F S w v vs hv hvs hF hS=>?_⟩
 cases (show vs = [] from hvs)
 rcases GU hc hv with ⟨rfl,a,k,rfl⟩|⟨g,cap,cur,rfl,hSg,hb,h5,h6,h7,h8,hall⟩
 ·have:ys = []:=by
   have:=List.eq_nil_of_length_eq_zero hlen
   exact (List.append_eq_nil_iff.1 this).1
  subst this
  refine (hno a k w).mono ?_
  rintro en w' ⟨rfl,rfl⟩
  exact ⟨_,rfl,⟨rfl,rfl,rfl,Nat.le_refl _,fun _ _ _=>rfl⟩,hv⟩
 ·refine (hyes g cap w (oE enc hb h8) h5 (Nat.le_trans h5 h6)).mono ?_
  rintro en w' ⟨rfl,q,rfl⟩
  have hg0:putRow enc (Sort.ahead w q) g 0 (ys++us).toArray=grow (putRow enc (Sort.ahead w q) g 0 (ys++us).toArray) #[]:=by unfold grow;rw [Array.append_empty]
  rw [hg0]
  exact ⟨_,rfl,Chg.grown (jE enc _) (fun k hk=>by cases hk;exact hSg),n5 (fun w' S' y hy=>hall y (hmem y hy) w' S') (uS enc hlen hb h5 h6 h7) hSg⟩
end
theorem DQ (t id e:Nat) {W0:cf} {N:Nat} {σ:Env} {Q:Exit→Act→World→Prop} {x:Exit} {z:Nat} (h:At W0 N ((t,.sy (.k id)) :: (id,.tk (.row z e [])) :: σ) x Q) (ht:au σ t=some (.sy (.d (.n z))):=by rfl) (hf:au σ id=none:=by rfl) (hne:Nat.beq id t=false:=by rfl):At W0 N σ x Q:=fun a w hh=>h a w (hh.nilS ht hf hne)
end Go.Proofs.YtclpbhoekmecjaaGreatDoor
namespace Go.Proofs.YtclpbhoekmecjaaGreatDoor
open Go.RowKit
set_option linter.unusedVariables false
set_option linter.unusedSimpArgs false
section
variable {P:Program} {ops:Array Oper} {W0:cf} {N:Nat} {Fin:Us→Env→Prop} {os:List Oper} {us:Us} {pk fk:List Nat} {σ:Env} {g:Option (Nat × Bool)} {gk:List Nat} {d ty ty' ty2:Nat} {pos:String} {after:Array Edge}
theorem zf {ρ:Operand→Value} {w:World} {dd:Option Nat} {x y:Operand} {m n:Int} (hb : -1000000≤m+n∧m+n≤1000000) (h1:ρ x=.int .i32 m) (h2:ρ y=.int .i32 n):(execOp ρ ⟨dd,.binOp .add ty' x y ty2,ty,pos,after,g⟩).run P w=.ok (.value (.int .i32 (m+n))) w:=by
 have hw:IntKind.i32.wrap (m+n)=m+n:=by
  simp only [IntKind.wrap,IntKind.signed,IntKind.bits]
  simp
  omega
 simp only [execOp,h1,h2]
 exact congrArg (fun q=>Result.ok (Next.value (.int .i32 q)) w) hw
theorem bm {x y:Operand} {m n:Int} (h:Der P ops W0 N Fin os (us++[((d :: (gk++(kx x++kx y)))++pk,([d])++fk)]) [] [] ((d,.sy (.v (.int .i32 (m+n)))) :: σ)) (hx:ev σ x=some (.v (.int .i32 m)):=by rfl) (hy:ev σ y=some (.v (.int .i32 n)):=by rfl) (hb : -1000000≤m+n∧m+n≤1000000:=by omega) (hg:gst ops σ g=some (true,gk):=by rfl) (hN:Nat.blt d N=true:=by rfl) (hs:aM σ d=true:=by rfl):Der P ops W0 N Fin (⟨some d,.binOp .add ty' x y ty2,ty,pos,after,g⟩ :: os) us pk fk σ:=
 b6 (.v (.int .i32 (m+n))) (kx x++kx y) (fun σ' c a w hk hc=>by
  have h1:a.eval x=.int .i32 m:=av hc (af hx (fun κ hκ=>hk κ (by simp [hκ])))
  have h2:a.eval y=.int .i32 n:=av hc (af hy (fun κ hκ=>hk κ (by simp [hκ])))
  exact ⟨_,zf hb h1 h2,rfl⟩) h hg hN hs
theorem Df {ρ:Operand→Value} {w:World} {dd:Option Nat} {s t:Nat} {x:Operand} {n:Int} (hu:P.underlying s=some (.int .i32)) (ht:P.underlying t=some .string) (h1:ρ x=.int .i32 n):(execOp ρ ⟨dd,.convert s t x,ty,pos,after,g⟩).run P w=.ok (.value (.string (Utf8.encode n))) w:=by
 simp only [execOp,h1]
 unfold convert
 simp [run_underlying hu,run_underlying ht,Conv.intToString,go_sem]
theorem GV {s t:Nat} {x:Operand} {n:Int} {b:ByteArray} (hb:Utf8.encode n=b) (hl:b.size≤maxLen) (h:Der P ops W0 N Fin os (us++[((d :: (gk++kx x))++pk,([d])++fk)]) [] [] ((d,.sy (.d (.s b))) :: σ)) (hx:ev σ x=some (.v (.int .i32 n)):=by rfl) (hu:P.underlying s=some (.int .i32):=by rfl) (ht:P.underlying t=some .string:=by rfl) (hg:gst ops σ g=some (true,gk):=by rfl) (hN:Nat.blt d N=true:=by rfl) (hs:aM σ d=true:=by rfl):Der P ops W0 N Fin (⟨some d,.convert s t x,ty,pos,after,g⟩ :: os) us pk fk σ:=
 b6 (.d (.s b)) (kx x) (fun σ' c a w hk hc=>by
  have h1:a.eval x=.int .i32 n:=av hc (af hx hk)
  exact ⟨_,Df hu ht h1,by rw [hb];exact ⟨rfl,hl⟩⟩) h hg hN hs
end
end Go.Proofs.YtclpbhoekmecjaaGreatDoor
namespace Go.Proofs.YtclpbhoekmecjaaGreatDoor
open Go.RowKit
set_option linter.unusedVariables false
set_option linter.unusedSimpArgs false
theorem zp {σ:Env} {κ n e:Nat} {ds ds':List D} {ps:List (Nat × Value)} (h:au σ κ=some (.tk (.deep n e ds ps))) (he:ds=ds'):au σ κ=some (.tk (.deep n e ds' ps)):=he ▸ h
def CH:List Nat→List Sy→List Sy
 | [],_=>[]
 | 0 :: sh,ss=>ss.take 1++CH sh (ss.drop 1)
 | (n+1) :: sh,ss=>.ag (ss.take (n+1)) :: CH sh (ss.drop (n+1))
def qL:List Nat→List Value→List Value
 | [],_=>[]
 | 0 :: sh,vs=>vs.take 1++qL sh (vs.drop 1)
 | (n+1) :: sh,vs=>.agg (vs.take (n+1)).toArray :: qL sh (vs.drop (n+1))
def EL:List Sy→Sy
 | [s]=>s
 | ss=>.tp ss
def DR:List Value→Value
 | [v]=>v
 | vs=>.tuple vs.toArray
theorem Av {c:Cx} {w:World}:∀(sh:List Nat) (ss:List Sy) (vs:List Value),Sy.oks c w ss vs→Sy.oks c w (CH sh ss) (qL sh vs):=by
 intro sh
 induction sh with
 | nil=>intro ss vs _;exact rfl
 | cons n sh ih=>
  intro ss vs h
  cases n with
  | zero=>exact nQ _ _ _ _ (nG 1 _ _ h) (ih _ _ (nC 1 _ _ h))
  | succ n=>exact ⟨_,_,rfl,⟨_,rfl,nG (n+1) _ _ h⟩,ih _ _ (nC (n+1) _ _ h)⟩
theorem un {c:Cx} {w:World}:∀(ss:List Sy) (vs:List Value),Sy.oks c w ss vs→(EL ss).ok c w (DR vs):=by
 intro ss vs h
 cases ss with
 | nil=>rw [show vs = [] from h];exact ⟨[],rfl,rfl⟩
 | cons s ss=>
  obtain ⟨y,t,rfl,h1,h2⟩:=h
  cases ss with
  | nil=>rw [show t = [] from h2];exact h1
  | cons s' ss=>
   obtain ⟨y',t',rfl,h3,h4⟩:=h2
   exact ⟨_,rfl,y,_,rfl,h1,y',t',rfl,h3,h4⟩
def Ek (W0:oK) (sh:List Nat) (ps:List Pt):Ending→World→Prop:=fun e w'=>∃(us:List Value) (T:Nat→BS),e=.returned (DR (qL sh us))∧Ext W0.w w'∧us.length=ps.length∧(∀i b,T i b→W0.w.heap.size≤b∧b<w'.heap.size)∧(∀i j,i≠j→∀b,T i b→¬T j b) ∧
 ∀(i:Nat) (p:Pt),ps[i]? = some p→∃u,us[i]? = some u∧p.ok w' (fun b=>fresh W0.w w' W0.F b∧∀j,¬T j b) (T i) u
structure FnO (P:Program) (f:FuncId) (ds:List D) (sh:List Nat) (ps:List Pt):Prop where
 enter:∀args w,(callFunc f args).run P w=.ok (.enter f args) w
 calls:∀(F:BS) (w:World) (vs:List Value),DVs w F ds vs→(∀b,F b→b<w.heap.size)→Calls P f vs.toArray w (Ek ⟨w,F⟩ sh ps)
section
variable {P:Program} {ops:Array Oper} {W0:cf} {N:Nat} {Fin:Us→Env→Prop} {os:List Oper} {us:Us} {pk fk:List Nat} {σ:Env} {g:Option (Nat × Bool)} {gk:List Nat} {d ty ty' f:Nat} {pos:String} {after:Array Edge} {at':Array TypeId} {xs:List Operand} {ds:List D}
theorem bk {sh:List Nat} {ps:List Pt} (h:Der P ops W0 N Fin os (us++[((d :: (gk++(((List.range ps.length).map fun k=>30000+1000 * k+d)++kxs xs)))++pk,(d :: (nr d 0 ps).map Prod.fst)++fk)]) [] [] ((d,.sy (EL (CH sh (BL d 0 ps)))) :: (nr d 0 ps++σ))) (hx:evs σ xs=some ds:=by rfl) (hf:FnO P f ds sh ps:=by assumption) (hi:((List.range ps.length).all fun k=>(au σ (30000+1000 * k+d)).isNone)=true:=by rfl) (hg:gst ops σ g=some (true,gk):=by rfl) (hN:Nat.blt d N=true:=by rfl) (hs:aM (nr d 0 ps++σ) d=true:=by rfl) (hu:(nr d 0 ps).all (fun p=>!(Nat.beq p.1 d))=true:=by rfl):Der P ops W0 N Fin (⟨some d,.call { callee:=.value (.func f),args:=xs.toArray,argTypes:=at' },ty,pos,after,g⟩ :: os) us pk fk σ:=
 me (EL (CH sh (BL d 0 ps))) (((List.range ps.length).map fun k=>30000+1000 * k+d)++kxs xs) (nr d 0 ps) (fun σ' c a w hk hc=>by
  unfold Oper.wp
  rw [b9 hf.enter rfl]
  refine (hf.calls c.F w _ (nj hc xs ds hx (fun κ hκ=>hk κ (by simp [hκ]))) hc.lt).mono ?_
  rintro e' w' ⟨vs,T,rfl,hX,hl,hT,hdis,hel⟩
  have hc1:=hc.grow hX (fun b=>fresh w w' c.F b∧∀j,¬T j b) (fun b hb=>⟨.inl hb,fun j e=>by have:=hc.lt b hb;have e2:w.heap.size≤b:=(hT j b e).1;omega⟩) (fun _ h=>h.1.imp id (fun h=>h.1)) (fun b hb=>hb.1.elim (fun h'=>Nat.lt_of_lt_of_le (hc.lt b h') (Below.size hX)) (fun h=>h.2))
  obtain ⟨c',h1,h2,h3,h4,h5⟩:=n8 hc1 d w.heap.size T hc.ext.size (fun j u hj b hb=>((hc.tok j u hj).2.2 b hb).2.1) (fun i b hb=>⟨fun hF=>hF.2 i hb,hT i b hb⟩) hdis ps 0 vs (fun k=>by
   rcases Nat.lt_or_ge k ps.length with hk'|hk'
   ·left
    rw [Nat.zero_add,hk _ (List.mem_append_left _ (List.mem_map.2 ⟨k,List.mem_range.2 hk',rfl⟩))]
    have:=List.all_eq_true.1 hi k (List.mem_range.2 hk')
    simpa using this
   ·exact .inr hk') hl (fun k p hp=>by rw [Nat.zero_add];exact hel k p hp)
  exact ⟨_,c',rfl,h1,un _ _ (Av sh _ _ h5)⟩) h hg hN hs hu
theorem aJ {x y:Operand} {i j o z e:Nat} {ds:List D} {ps:List (Nat × Value)} {cs:List Sy} (h:Der P ops W0 N Fin os (us++[((gk++(i :: ([j]++(kx x++kx y))))++pk,([i])++fk)]) [] [] ((i,.tk (.bx (cs.set o (.k j)))) :: σ)) (hx:ev σ x=some (.bx i o):=by rfl) (hi:au σ i=some (.tk (.bx cs)):=by rfl) (hy:ev σ y=some (.k j):=by rfl) (hj:au σ j=some (.tk (.deep z e ds ps)):=by rfl) (ho:Nat.blt o cs.length=true:=by rfl) (hz:sizeOf? P ty'=some 1:=by rfl) (hg:gst ops σ g=some (true,gk):=by rfl):Der P ops W0 N Fin (⟨none,.store ty' x y,ty,pos,after,g⟩ :: os) us pk fk σ:=
 lI (i :: ([j]++(kx x++kx y))) [(i,.tk (.bx (cs.set o (.k j))))] (fun σ' c a w hk hc=>by
  obtain ⟨hAi,b,e1,e2⟩:=av hc (af hx (fun κ hκ=>hk κ (by simp [hκ])))
  have hi':=(hk i (by simp)).trans hi
  obtain ⟨_,⟨b',vs,e3,e4,e5,e6⟩,hlt⟩:=hc.tok i _ hi'
  rw [e1] at e3;cases e3
  have hv:=av hc (af hy (fun κ hκ=>hk κ (by simp [hκ])))
  have hone:(a.eval y).oneCell'=true:=ru hc hv (by unfold sZ;dsimp only;rw [(hk j (by simp)).trans hj])
  have hol:o<vs.length:=by rw [dU _ _ e5];exact Nat.blt_eq.mp ho
  obtain ⟨q4,q5⟩:=e6 o _ (List.getElem?_eq_getElem hol)
  unfold Oper.wp
  rw [gH hz hone q4 q5 e2 rfl]
  have hch:Chg (c.T i) w (w.setCell ⟨b,o,none⟩ (a.eval y)):=Chg.grown (bO b o _) (fun g hg=>by cases hg;exact e4)
  refine ⟨rfl,c,hc.upd hi' hch (by simp) (fun hag=>⟨b,vs.set o (a.eval y),e1,e4,?_,e6.set o _⟩)⟩
  exact kS _ _ _ _ _ (Sy.keeps (Cx.Le.refl c) hag _ _ e5) (Sy.keep (Cx.Le.refl c) hag _ _ hv)) h hg
end
theorem H0 (t:Nat) {P:Program} {ops:Array Oper} {W0:cf} {N:Nat} {Fin:Us→Env→Prop} {os:List Oper} {us:Us} {pk fk:List Nat} {σ:Env} {o:Oper} {i:Nat} {cs:List Sy} (h:Der P ops W0 N Fin (o :: os) us (([t,i]++iw cs)++pk) ([t,i]++fk) ((t,.sy (.atS 0 cs)) :: (i,.no) :: σ)) (hx:au σ t=some (.sy (.bx i 0)):=by rfl) (hi:au σ i=some (.tk (.bx cs)):=by rfl) (ho:cs.all (sZ σ)=true:=by rfl) (hu:Nat.beq i t=false:=by rfl):Der P ops W0 N Fin (o :: os) us pk fk σ:=by
 obtain ⟨keys,upd,h1,h2⟩:=h
 refine ⟨keys++([t,i]++iw cs),upd++[(t,.sy (.atS 0 cs)),(i,.no)],fun σ' a w hk hh=>?_,?_⟩
 ·have h3:=Holds.fzS ((hk t (by simp)).trans hx) ((hk i (by simp)).trans hi) ((iR (fun κ hκ=>hk κ (by simp [hκ]))).trans ho) hu hh
  have h4:=h1 _ a w (fun κ hκ=>?_) h3
  ·rw [List.append_assoc];exact h4
  ·rw [ah,ah,ah,ah,hk κ (by simp [hκ])]
 ·simp only [List.append_assoc,List.map_append] at h2 ⊢
  exact h2
inductive vy (σ:Env):Sy→Pt→Prop
 | d {r:D}:isT r=false→vy σ (.d r) (.d r)
 | k {i:Nat} {t:Tk}:au σ i=some (.tk t)→t.rowB=true→vy σ (.k i) (.tk t)
 | n {z z' e:Nat}:vy σ (.d (.n z)) (.tk (.row z' e []))
 | m {z z' e:Nat}:vy σ (.d (.n z)) (.tk (.deep z' e [] []))
 | o {z z':Nat}:vy σ (.d (.n z)) (.tk (.own (.l z' []) none none))
inductive pV (σ:Env):List Sy→List Pt→Prop
 | nil:pV σ [] []
 | cons {s:Sy} {p:Pt} {ss:List Sy} {ps:List Pt}:vy σ s p→pV σ ss ps→pV σ (s :: ss) (p :: ps)
theorem pV.at {σ:Env} {ss:List Sy} {ps:List Pt} (h:pV σ ss ps):ss.length=ps.length∧∀(k:Nat) (p:Pt),ps[k]? = some p→∃s,ss[k]? = some s∧vy σ s p:=by
 induction h with
 | nil=>exact ⟨rfl,fun k p h=>by simp at h⟩
 | cons h1 _ ih=>
  refine ⟨by simp [ih.1],fun k p hk=>?_⟩
  cases k with
  | zero=>simp at hk;subst hk;exact ⟨_,rfl,h1⟩
  | succ k=>exact ih.2 k p (by simpa using hk)
def isK (j:Nat):Sy→Bool
 | .k i=>Nat.beq i j
 | _=>false
def Cj:List Sy→Bool
 | []=>true
 | .k i :: q=>q.all (fun s=>!isK i s) && Cj q
 | _ :: q=>Cj q
theorem rR {s:Sy} {q:List Sy} (h:Cj (s :: q)=true):Cj q=true:=by
 cases s with
 | k i=>exact (Bool.and_eq_true _ _ ▸ h:_∧_).2
 | _=>exact h
theorem mL:∀(q:List Sy) (k l i j:Nat),Cj q=true→k<l→q[k]? = some (.k i)→q[l]? = some (.k j)→i≠j:=by
 intro q
 induction q with
 | nil=>intro k l i j _ _ h;simp at h
 | cons s q ih=>
  intro k l i j hq hkl hk hl
  cases l with
  | zero=>omega
  | succ l=>
   rw [List.getElem?_cons_succ] at hl
   cases k with
   | zero=>
    simp at hk
    subst hk
    have h1:q.all (fun s=>!isK i s)=true:=(Bool.and_eq_true _ _ ▸ hq:_∧_).1
    have:=List.all_eq_true.1 h1 _ (List.mem_of_getElem? hl)
    intro e
    subst e
    simp [isK] at this
   | succ k=>exact ih k l i j (rR hq) (by omega) (by simpa using hk) hl
def Em (P:Program) (σ:Env):List ResultVar→Option (List Nat × List Sy)
 | []=>some ([],[])
 | .tmp t :: rs=>match ev σ (.tmp t),Em P σ rs with
  | some (.d r),some (sh,q)=>some (0 :: sh,.d r :: q)
  | some (.k i),some (sh,q)=>some (0 :: sh,.k i :: q)
  | _,_=>none
 | .cell t ty :: rs=>match ev σ (.tmp t),isAgg? P ty,Em P σ rs with
  | some (.bx i 0),some true,some (sh,q)=>match au σ i with
   | some (.tk (.bx cs))=>match sizeOf? P ty with
    | some (z+1)=>match Nat.beq (z+1) cs.length with|true=>some ((z+1) :: sh,cs++q)|false=>none
    | _=>none
   | _=>none
  | _,_,_=>none
theorem BA {P:Program} {W0:cf} {N:Nat} {a:Act} {w:World} {c:Cx} {σ:Env} (h:aL W0 N σ a w c):∀(rs:List ResultVar) (sh:List Nat) (q:List Sy),Em P σ rs=some (sh,q)→∃us:List Value,(rs.mapM (m:=Sem) (rvF a.tmps)).run P w=.ok (qL sh us) w∧Sy.oks c w q us:=by
 intro rs
 induction rs with
 | nil=>intro sh q he;cases he;exact ⟨[],by simp [go_sem,qL],rfl⟩
 | cons r rs ih=>
  intro sh q he
  cases r with
  | tmp t=>
   have key:∀s sh' q',ev σ (.tmp t)=some s→Em P σ rs=some (sh',q')→∃us:List Value,((ResultVar.tmp t :: rs).mapM (m:=Sem) (rvF a.tmps)).run P w=.ok (qL (0 :: sh') us) w∧Sy.oks c w (s :: q') us:=fun s sh' q' h1 h2=>by
    obtain ⟨us,h3,h4⟩:=ih sh' q' h2
    refine ⟨_ :: us,?_,_,us,rfl,av h h1,h4⟩
    rw [List.mapM_cons]
    simp only [Sem.run_bind,Sem.run_pure,Result.andThen_ok,h3,rvF]
    rfl
   unfold Em at he
   split at he
   ·rename_i h1 h2;cases he;exact key _ _ _ h1 h2
   ·rename_i h1 h2;cases he;exact key _ _ _ h1 h2
   ·cases he
  | cell t ty=>
   unfold Em at he
   split at he
   ·rename_i i sh' q' h1 hA h2
    split at he
    ·rename_i cs hcs
     split at he
     ·rename_i z hz
      split at he
      ·rename_i hb
       cases he
       obtain ⟨us',h3,h4⟩:=ih _ _ h2
       obtain ⟨_,b,e1,e2⟩:=av h h1
       obtain ⟨_,⟨b',us,e3,e4,e5,e6⟩,_⟩:=h.tok i _ hcs
       rw [e1] at e3;cases e3
       have hlen:us.length=z+1:=(dU _ _ e5).trans (Nat.eq_of_beq_eq_true hb).symm
       refine ⟨us++us',?_,nQ _ _ _ _ e5 h4⟩
       have hld:=fc (P:=P) (ty:=ty) (b:=b) (off:=0) (w:=w) hA (by rw [hz,hlen]) (fun j u hj=>by rw [Nat.zero_add];exact (e6 j u hj).1)
       have hld':(loadVar ty ⟨b,0,none⟩).run P w=.ok (.agg us.toArray) w:=by
        unfold Instr.loadAt at hld
        simpa [Instr.sureAddr] using hld
       have ht:a.tmps.getD t undef=.pointer (some ⟨b,0,none⟩):=e2
       rw [List.mapM_cons]
       have hadr:(asAddr (.pointer (some ⟨b,0,none⟩))).run P w=.ok ⟨b,0,none⟩ w:=rfl
       simp only [Sem.run_bind,Sem.run_pure,Result.andThen_ok,ht,hadr,hld',h3,rvF,qL]
       rw [List.take_append_of_le_length (by omega),List.drop_append_of_le_length (by omega),List.take_of_length_le (by omega),List.drop_of_length_le (by omega)]
       rfl
      ·cases he
     ·cases he
    ·cases he
   ·cases he
def tOf (c:Cx):Option Sy→BS
 | some (.k i)=>c.T i
 | _=>fun _=>False
section
variable {P:Program} {W0:oK} {N:Nat} {σ:Env} {fn:Func} {rs:List ResultVar}
theorem gP {sh:List Nat} {q:List Sy} {ps:List Pt} (hr:fn.results=rs.toArray:=by rfl) (hd:Em P σ rs=some (sh,q):=by rfl) (hp:pV σ q ps) (hk:Cj q=true:=by rfl) (hl:Nat.beq sh.length rs.length=true:=by rfl):At W0.toB N σ .ret (bodyPost P fn (Ek W0 sh ps)):=fun a w hh=>by
 obtain ⟨c,h⟩:=hh
 obtain ⟨us,h1,h2⟩:=BA h rs _ _ hd
 obtain ⟨hq,hat⟩:=hp.at
 have htok:∀(k i:Nat),q[k]? = some (.k i)→∃t,au σ i=some (.tk t):=fun k i hki=>by
  obtain ⟨p,hpk⟩:∃p,ps[k]? = some p:=by
   have:k<ps.length:=by rw [← hq];exact (List.getElem?_eq_some_iff.1 hki).1
   exact ⟨_,List.getElem?_eq_getElem this⟩
  obtain ⟨s,e1,e2⟩:=hat k p hpk
  rw [hki] at e1;cases e1
  cases e2 with
  | k e _=>exact ⟨_,e⟩
 have hT:∀(k b:Nat),tOf c q[k]? b→∃i t,q[k]? = some (.k i)∧au σ i=some (.tk t)∧c.T i b:=fun k b hb=>by
  cases e:q[k]? with
  | none=>rw [e] at hb;exact hb.elim
  | some s=>
   rw [e] at hb
   cases s with
   | k i=>obtain ⟨t,ht⟩:=htok k i e;exact ⟨i,t,rfl,ht,hb⟩
   | _=>exact hb.elim
 refine bodyPost_ret (v:=DR (qL sh us)) ?_ h.defers ⟨us,fun k=>tOf c q[k]?,rfl,h.ext.toExt,?_,fun k b hb=>?_,fun k l hne b hb hb'=>?_,fun k p hpk=>?_⟩
 ·rw [iM,hr,Array.mapM_eq_mapM_toList,show rs.toArray.toList=rs from rfl]
  simp only [Sem.run_bind,Sem.run_map,h1]
  cases qL sh us with
  | nil=>simp [Result.andThen,DR,go_sem]
  | cons v t=>
   cases t with
   | nil=>simp [Result.andThen,DR,go_sem]
   | cons v' t=>simp [Result.andThen,DR,go_sem]
 ·rw [dU _ _ h2,hq]
 ·obtain ⟨i,t,_,ht,hi⟩:=hT k b hb
  have:=(h.tok i t ht).2.2 b hi
  exact ⟨this.2.2.elim False.elim _root_.id,this.2.1⟩
 ·obtain ⟨i,t,e1,ht,hi⟩:=hT k b hb
  obtain ⟨j,u,e2,hu,hj⟩:=hT l b hb'
  refine h.off i j t u ht hu ?_ b hi hj
  rcases Nat.lt_or_gt_of_ne hne with hlt|hlt
  ·exact mL q k l i j hk hlt e1 e2
  ·exact (mL q l k j i hk hlt e2 e1).symm
 ·obtain ⟨s,e1,e2⟩:=hat k p hpk
  obtain ⟨v,e3,e4⟩:=sj _ _ k s h2 e1
  refine ⟨v,e3,?_⟩
  have hG:∀b,c.F b→fresh W0.w w W0.F b∧∀j,¬tOf c q[j]? b:=fun b hb=>⟨(h.old b hb).imp _root_.id (fun h'=>⟨h'.elim False.elim _root_.id,h.lt b hb⟩),fun j hj=>by
   obtain ⟨i,t,_,ht,hi⟩:=hT j b hj
   exact ((h.tok i t ht).2.2 b hi).1 hb⟩
  cases e2 with
  | d hr=>exact ⟨hr,DV.keep hG (fun _ _ _=>rfl) e4⟩
  | k hi hb=>
   refine ⟨hb,?_⟩
   obtain ⟨_,e5⟩:=e4
   rw [e5]
   rename_i i0 t0 _
   have hS:tOf c q[k]? = c.T i0:=by rw [e1];rfl
   show Tk.ok _ w _ _ (tOf c q[k]?)
   rw [hS]
   exact Tk.cx hb hG (h.tok _ _ hi).2.1
  | n=>obtain ⟨a0,ha⟩:=e4;exact ⟨rfl,.inl ⟨rfl,a0,(List.cons.inj ha).1⟩⟩
  | m=>obtain ⟨a0,ha⟩:=e4;exact ⟨rfl,.inl ⟨rfl,rfl,a0,(List.cons.inj ha).1⟩⟩
  | o=>obtain ⟨a0,ha⟩:=e4;exact ⟨rfl,⟨a0,0,ha,Nat.le_refl _,by decide,fun _=>rfl,.inl rfl⟩,fun p hp=>(by cases hp),fun p hp=>(by cases hp)⟩
end
theorem dy {P : Program} {f : FuncId} {ds : List D} {sh : List Nat} {ps : List Pt} {fn : Func} {c : Code} {N : Nat} (hf : P.funcs[f]? = some fn) (h : WfL ds → ∀ W0 : oK, az P W0.toB N c (Gm 0 ds) (bodyPost P fn (Ek W0 sh ps))) (hb : fn.body = some c := by rfl) (hN : fn.ntmps = N := by rfl) (hl : Nat.ble ds.length N = true := by rfl) (hnm : (fn.name == "runtime.NumGoroutine") = false := by kernel_rfl) : FnO P f ds sh ps := by
 refine ⟨fun args w=>?_,fun F w vs hv hF=>?_⟩
 ·unfold callFunc
  simp only [Sem.run_bind,show (program).run P w=.ok P w from rfl,Result.andThen_ok,hf,hnm,hb]
  rfl
 ·obtain ⟨h1,h2⟩:=zB ds vs hv
  refine calls_of_wp hf hb (h (DVs.wf ds vs hv) ⟨w,F⟩ _ w ⟨⟨F,fun _=>undef,fun _ _=>False,fun _=>False⟩,⟨rfl,rfl,rfl,Nat.le_refl _,fun _ _ _=>rfl⟩,fun b hb=>.inl hb,hF,?_,rfl,fun i hi=>hi.elim,fun i t ht=>?_,fun i j t u hi=>?_,fun t s ht=>?_⟩)
  ·have:=Nat.le_of_ble_eq_true hl
   simp [h1,hN];omega
  ·obtain ⟨r',e,_⟩:=iI _ _ _ _ ht;cases e
  ·obtain ⟨r',e,_⟩:=iI _ _ _ _ hi;cases e
  ·obtain ⟨r',e,h3,h4⟩:=iI _ _ _ _ ht
   cases e
   obtain ⟨v,h5,h6⟩:=h2 _ _ h4
   rw [Nat.sub_zero] at h5
   refine ⟨v,?_,Dt (by exact h6)⟩
   have hlt:t<vs.length:=by
    rcases Nat.lt_or_ge t vs.length with h|h
    ·exact h
    ·rw [List.getElem?_eq_none h] at h5;cases h5
   show (vs.toArray++Array.replicate (fn.ntmps - vs.toArray.size) undef)[t]? = some v
   rw [Array.getElem?_append_left (by simpa using hlt)]
   simpa using h5
end Go.Proofs.YtclpbhoekmecjaaGreatDoor
namespace Go.Proofs.YtclpbhoekmecjaaGreatDoor
open Go.RowKit
set_option linter.unusedVariables false
set_option linter.unusedSimpArgs false
def nI:List (Int × Int)→Int→Option Int
 | [],_=>none
 | p :: m,n=>if n=p.1 then some p.2 else nI m n
theorem A6 (kd:IntKind) (k:Int):∀(es:List MapEntry) (m:List (Int × Int)) (i:Nat),es.map (fun e=>(e.key,e.val))=m.map (fun p=>(Value.int .i64 p.1,Value.int .i64 p.2))→∃r,Instr.findNow (.int kd) (.int .i64 k) es i=some r∧r.map Prod.snd=(nI m k).map (Value.int .i64):=by
 intro es
 induction es with
 | nil=>
  intro m i h
  cases m with
  | nil=>exact ⟨none,rfl,rfl⟩
  | cons p m=>simp at h
 | cons e es ih=>
  intro m i h
  cases m with
  | nil=>simp at h
  | cons p m=>
   simp only [List.map_cons,List.cons.injEq,Prod.mk.injEq] at h
   obtain ⟨⟨h1,h2⟩,h3⟩:=h
   unfold Instr.findNow nI
   rw [h1]
   by_cases hk:k=p.1
   ·rw [if_pos hk]
    exact ⟨some (i,e.val),by simp [Instr.sameNow,hk],by simp [h2]⟩
   ·rw [if_neg hk]
    obtain ⟨r,h4,h5⟩:=ih m (i+1) h3
    have hb:(k == p.1)=false:=by simp [hk]
    exact ⟨r,by simp only [Instr.sameNow,if_pos,hb];simp [h4],h5⟩
def map? (P:Program) (ty:Nat):Option (Nat × Nat):=match P.underlying ty with|some (.map k e)=>some (k,e)|_=>none
def int? (P:Program) (ty:Nat):Option IntKind:=match P.underlying ty with|some (.int k)=>some k|_=>none
theorem DG {P:Program} {ty k e:Nat} (h:map? P ty=some (k,e)):P.underlying ty=some (.map k e):=by
 unfold map? at h;split at h
 ·rename_i h1;cases h;exact h1
 ·cases h
theorem vU {P:Program} {ty:Nat} {k:IntKind} (h:int? P ty=some k):P.underlying ty=some (.int k):=by
 unfold int? at h;split at h
 ·rename_i h1;cases h;exact h1
 ·cases h
theorem An {P:Program} {w:World} {ty kt et b:Nat} {m:List (Int × Int)} {n:Int} (ht:map? P ty=some (kt,et)) (hk:int? P kt=some .i64) (hz:su P et=some (.int .i64 0)) (hm:E0 w b m):(Instr.lookup ty (.map (some b)) (.int .i64 n) true).run P w=.ok (.tuple #[.int .i64 ((nI m n).getD 0),.bool (nI m n).isSome]) w:=by
 obtain ⟨es,clock,h1,h2⟩:=hm
 obtain ⟨r,h3,h4⟩:=A6 .i64 n es.toList m 0 h2
 have hzr:(zeroValue et).run P w=.ok (.int .i64 0) w:=by
  unfold su at hz
  rw [Option.bind_eq_some_iff] at hz
  obtain ⟨i,hi,hz⟩:=hz
  simp [zeroValue,typeInfo,hi,hz,Sem.run_bind,Result.andThen]
 have hc:∀e,(Instr.checkKey e 10000 kt (.int .i64 n)).run P w=.ok () w:=fun e=>_root_.Go.MapKept.run_checkKey (vU hk) (by exact rfl) e 9999
 unfold Instr.lookup
 simp only [Sem.run_bind,run_underlying (DG ht),Result.andThen_ok,_root_.Go.MapKept.run_getObj_map h1,Sem.run_pure,hc,_root_.Go.MapKept.run_findKey (vU hk) h3]
 cases r with
 | none=>
  have:nI m n=none:=by cases hg:nI m n with|none=>rfl|some v=>rw [hg] at h4;simp at h4
  rw [this]
  simp [hzr,Result.andThen]
 | some q=>
  obtain ⟨i,v⟩:=q
  cases hg:nI m n with
  | none=>rw [hg] at h4;simp at h4
  | some x=>
   rw [hg] at h4
   simp at h4
   simp [h4,Result.andThen]
theorem CE {P:Program} {w:World} {ty kt et b:Nat} {m:List (Int × Int)} {n v:Int} (ht:map? P ty=some (kt,et)) (hk:int? P kt=some .i64) (hm:E0 w b m) (hn:nI m n=none):∃w',(Instr.mapUpdate ty (.map (some b)) (.int .i64 n) (.int .i64 v)).run P w=.ok () w'∧w.grownBy w' (some b)∧w'.heap.size=w.heap.size∧E0 w' b (m++[(n,v)]):=by
 obtain ⟨es,clock,h1,h2⟩:=hm
 obtain ⟨r,h3,h4⟩:=A6 .i64 n es.toList m 0 h2
 rw [hn] at h4
 have hr:r=none:=by cases r with|none=>rfl|some q=>simp at h4
 subst hr
 have hc:(Instr.checkKey false 10000 kt (.int .i64 n)).run P w=.ok () w:=_root_.Go.MapKept.run_checkKey (vU hk) (by exact rfl) false 9999
 refine ⟨{ w with heap:=w.heap.setIfInBounds b (.map (es.push { key:=.int .i64 n,val:=.int .i64 v,born:=clock }) (clock+1)) },?_,⟨rfl,rfl,rfl,by simp,fun k hk hne=>?_⟩,by simp,?_⟩
 ·unfold Instr.mapUpdate
  simp only [Sem.run_bind,run_underlying (DG ht),Result.andThen_ok,_root_.Go.MapKept.run_getObj_map h1,hc,_root_.Go.MapKept.run_findKey (vU hk) h3,_root_.Go.MapKept.run_setObj_map _ h1]
 ·exact (_root_.Go.MapKept.heap_set h1).2 k (fun e=>hne (by rw [e]))
 ·exact ⟨_,_,(_root_.Go.MapKept.heap_set h1).1,by simp [h2]⟩
section
variable {P:Program} {ops:Array Oper} {W0:cf} {N:Nat} {Fin:Us→Env→Prop} {os:List Oper} {us:Us} {pk fk:List Nat} {σ:Env} {g:Option (Nat × Bool)} {gk:List Nat} {d ty ty':Nat} {pos:String} {after:Array Edge} {x y z:Operand} {i kt et:Nat} {m:List (Int × Int)} {s t:Sy} {n v:Int}
theorem EU (h:Der P ops W0 N Fin os (us++[((d :: (gk++[10000+d]))++pk,([d,10000+d])++fk)]) [] [] ((d,.sy (.k (10000+d))) :: (10000+d,.tk (.mp [])) :: σ)) (hi:au σ (10000+d)=none:=by rfl) (hg:gst ops σ g=some (true,gk):=by rfl) (hN:Nat.blt d N=true:=by rfl) (hs:aM ((10000+d,.tk (.mp [])) :: σ) d=true:=by rfl) (hu:Nat.beq (10000+d) d=false:=by rfl):Der P ops W0 N Fin (⟨some d,.makeMap ty' none,ty,pos,after,g⟩ :: os) us pk fk σ:=
 me (.k (10000+d)) [10000+d] [(10000+d,.tk (.mp []))] (fun σ' c a w hk hc=>by
  have hX:Ext w (w.alloc (.map #[] 0)):=(Ext.refl w).alloc _
  have hr:(execOp a.eval ⟨some d,.makeMap ty' none,ty,pos,after,g⟩).run P w=.ok (.value (.map (some w.heap.size))) (w.alloc (.map #[] 0)):=rfl
  unfold Oper.wp
  rw [hr]
  have hc1:=hc.grow hX c.F (fun _ h=>h) (fun _ h=>.inl h) (fun b hb=>Nat.lt_of_lt_of_le (hc.lt b hb) (Below.size hX))
  refine ⟨_,_,rfl,hc1.new (i:=10000+d) (t:=.mp []) (v:=.map (some w.heap.size)) (S:=fun b=>b=w.heap.size) ((hk _ (by simp)).trans hi) ⟨_,rfl,rfl,#[],0,(_root_.Go.MapKept.heap_alloc w _).1,rfl⟩ (fun b hb=>⟨fun hF=>?_,?_⟩) (fun j u hj b hb hT=>?_),?_⟩
  ·subst hb;exact absurd (hc.lt _ hF) (Nat.lt_irrefl _)
  ·subst hb;exact ⟨by simp,.inr hc.ext.size⟩
  ·subst hb;exact absurd ((hc.tok j u hj).2.2 _ hT).2.1 (Nat.lt_irrefl _)
  ·exact ⟨.inr rfl,(if_pos rfl).symm⟩) h hg hN hs (by simp [hu])
theorem zn (hx:ev σ x=some (.k i)) (hi:au σ i=some (.tk (.mp m))) (hy:ev σ y=some s) (hz:ev σ z=some t) (hm:s.int? = some n) (hv:t.int? = some v) (hn:nI m n=none) (ht:map? P ty'=some (kt,et)) (hk':int? P kt=some .i64) {σ':Env} {c:Cx} {a:Act} {w:World} (hk:∀κ∈i :: (kx x++(kx y++kx z)),au σ' κ=au σ κ) (hc:aL W0 N σ' a w c):∃w',(Instr.mapUpdate ty' (a.eval x) (a.eval y) (a.eval z)).run P w=.ok () w'∧aL W0 N ((i,.tk (.mp (m++[(n,v)]))) :: σ') a w' c:=by
 have hi':=(hk i (by simp)).trans hi
 obtain ⟨_,⟨b,e1,e2,e3⟩,_⟩:=hc.tok i _ hi'
 obtain ⟨_,hxv⟩:=av hc (af hx (fun κ hκ=>hk κ (by simp [hκ])))
 have hyv:=ex hm (av hc (af hy (fun κ hκ=>hk κ (by simp [hκ]))))
 have hzv:=ex hv (av hc (af hz (fun κ hκ=>hk κ (by simp [hκ]))))
 obtain ⟨w',h1,h2,h3,h4⟩:=CE ht hk' e3 hn (v:=v)
 rw [hxv,e1,hyv,hzv]
 exact ⟨w',h1,hc.upd hi' (Chg.grown h2 (fun g hg=>by cases hg;exact e2)) h3 (fun _=>⟨b,e1,e2,h4⟩)⟩
theorem EC (h:Der P ops W0 N Fin os (us++[((gk++(i :: (kx x++(kx y++kx z))))++pk,([i])++fk)]) [] [] ((i,.tk (.mp (m++[(n,v)]))) :: σ)) (hn:nI m n=none) (hx:ev σ x=some (.k i):=by rfl) (hi:au σ i=some (.tk (.mp m)):=by rfl) (hy:ev σ y=some s:=by rfl) (hz:ev σ z=some t:=by rfl) (hm:s.int? = some n:=by rfl) (hv:t.int? = some v:=by rfl) (ht:map? P ty'=some (kt,et):=by rfl) (hk':int? P kt=some .i64:=by rfl) (hg:gst ops σ g=some (true,gk):=by rfl):Der P ops W0 N Fin (⟨none,.mapUpdate ty' x y z,ty,pos,after,g⟩ :: os) us pk fk σ:=
 lI (i :: (kx x++(kx y++kx z))) [(i,.tk (.mp (m++[(n,v)])))] (fun σ' c a w hk hc=>by
  obtain ⟨w',h1,h2⟩:=zn hx hi hy hz hm hv hn ht hk' hk hc
  unfold Oper.wp
  rw [show (execOp a.eval ⟨none,.mapUpdate ty' x y z,ty,pos,after,g⟩).run P w=.ok .skip w' from qT h1]
  exact ⟨rfl,c,h2⟩) h hg
theorem E1 (h:Der P ops W0 N Fin os (us++[((gk++(i :: (kx x++(kx y++kx z))))++pk,([i])++fk)]) [] [] ((i,.tk (.mp (m++[(n,v)]))) :: σ)) (hn:nI m n=none) (hx:ev σ x=some (.k i):=by rfl) (hi:au σ i=some (.tk (.mp m)):=by rfl) (hy:ev σ y=some s:=by rfl) (hz:ev σ z=some t:=by rfl) (hm:s.int? = some n:=by rfl) (hv:t.int? = some v:=by rfl) (ht:map? P ty'=some (kt,et):=by rfl) (hk':int? P kt=some .i64:=by rfl) (hg:gst ops σ g=some (true,gk):=by rfl):Der P ops W0 N Fin (⟨none,.insert ty' x y z,ty,pos,after,g⟩ :: os) us pk fk σ:=
 lI (i :: (kx x++(kx y++kx z))) [(i,.tk (.mp (m++[(n,v)])))] (fun σ' c a w hk hc=>by
  obtain ⟨w',h1,h2⟩:=zn hx hi hy hz hm hv hn ht hk' hk hc
  unfold Oper.wp
  rw [show (execOp a.eval ⟨none,.insert ty' x y z,ty,pos,after,g⟩).run P w=.ok .skip w' from qT h1]
  exact ⟨rfl,c,h2⟩) h hg
theorem zI (o:Option Int) (ho:nI m n=o) (h:Der P ops W0 N Fin os (us++[((d :: (gk++(i :: (kx x++kx y))))++pk,([d])++fk)]) [] [] ((d,.sy (.tp [.d (.i (o.getD 0)),.d (.b o.isSome)])) :: σ)) (hb:∀v,o=some v→I64 v) (hx:ev σ x=some (.k i):=by rfl) (hi:au σ i=some (.tk (.mp m)):=by rfl) (hy:ev σ y=some s:=by rfl) (hm:s.int? = some n:=by rfl) (ht:map? P ty'=some (kt,et):=by rfl) (hk':int? P kt=some .i64:=by rfl) (hz:su P et=some (.int .i64 0):=by rfl) (hg:gst ops σ g=some (true,gk):=by rfl) (hN:Nat.blt d N=true:=by rfl) (hs:aM σ d=true:=by rfl):Der P ops W0 N Fin (⟨some d,.lookup ty' x y true,ty,pos,after,g⟩ :: os) us pk fk σ:=
 b6 (.tp [.d (.i (o.getD 0)),.d (.b o.isSome)]) (i :: (kx x++kx y)) (fun σ' c a w hk hc=>by
  obtain ⟨_,⟨b,e1,e2,e3⟩,_⟩:=hc.tok i _ ((hk i (by simp)).trans hi)
  obtain ⟨_,hxv⟩:=av hc (af hx (fun κ hκ=>hk κ (by simp [hκ])))
  have hyv:=ex hm (av hc (af hy (fun κ hκ=>hk κ (by simp [hκ]))))
  have hr:=An (w:=w) (n:=n) ht hk' hz e3
  rw [ho] at hr
  refine ⟨_,d7 (X:=Instr.lookup ty' (a.eval x) (a.eval y) true) (by rw [hxv,e1,hyv];exact hr),⟨_,rfl,_,_,rfl,⟨rfl,?_⟩,_,_,rfl,rfl,rfl⟩⟩
  cases hgm:o with
  | none=>unfold I64;simp
  | some v=>exact hb v hgm) h hg hN hs
end
theorem BN (m:List (Int × Int)) (a b x:Int):nI (m++[(a,b)]) x=(nI m x).or (if x=a then some b else none):=by
 induction m with
 | nil=>unfold nI;simp [nI]
 | cons p m ih=>
  show nI (p :: (m++[(a,b)])) x=_
  unfold nI
  by_cases h:x=p.1
  ·rw [if_pos h,if_pos h];rfl
  ·rw [if_neg h,if_neg h,ih]
end Go.Proofs.YtclpbhoekmecjaaGreatDoor
namespace Go.Proofs.YtclpbhoekmecjaaGreatDoor
open Go.RowKit
set_option linter.unusedVariables false
set_option linter.unusedSimpArgs false
mutual
def CG:D→Nat→Option D
 | .t ds,q=>GI ds q
 | .i n,q=>match q with|0=>some (.i n)|_=>none
 | .s n,q=>match q with|0=>some (.s n)|_=>none
 | .b n,q=>match q with|0=>some (.b n)|_=>none
 | .n z,q=>match q with|0=>some (.n z)|_=>none
 | .l z xs,q=>match q with|0=>some (.l z xs)|_=>none
 | _,_=>none
def GI:List D→Nat→Option D
 | [],_=>none
 | d :: ds,q=>match Nat.blt q d.sz with|true=>CG d q|false=>GI ds (q - d.sz)
end
mutual
def CW:D→Nat→D→D
 | .t ds,q,r=>.t (F8 ds q r)
 | .i _,_,r=>r
 | .s _,_,r=>r
 | .b _,_,r=>r
 | .n _,_,r=>r
 | .l _ _,_,r=>r
 | d,_,_=>d
def F8:List D→Nat→D→List D
 | [],_,_=>[]
 | d :: ds,q,r=>match Nat.blt q d.sz with|true=>CW d q r :: ds|false=>d :: F8 ds (q - d.sz) r
end
theorem yP {w:World} {d d0 r:D} {T:BS} {cs:List Value} {q:Nat} (h:Ow w d T cs) (hc:∃u,cs = [u]) (hg:(match q with|0=>some d|_=>none)=some d0):∃(T0:BS) (u:Value),(∀x,T0 x→T x)∧cs[q]? = some u∧Ow w d0 T0 [u]∧∀(w':World) (r:D) (u':Value),w.heap.size≤w'.heap.size→(∀b,T b→¬T0 b→b<w.heap.size→w'.heap[b]? = w.heap[b]?)→Ow w' r T0 [u']→Ow w' r T (cs.set q u'):=by
 obtain ⟨u,rfl⟩:=hc
 cases q with
 | succ q=>cases hg
 | zero=>cases hg;exact ⟨T,u,fun _ h=>h,rfl,h,fun w' r u' _ _ hr=>hr⟩
mutual
theorem Hq {w:World}:∀(d:D) (q:Nat) (T:BS) (cs:List Value) (d0:D),Ow w d T cs→CG d q=some d0→∃(T0:BS) (u:Value),(∀x,T0 x→T x)∧cs[q]? = some u∧Ow w d0 T0 [u]∧∀(w':World) (r:D) (u':Value),w.heap.size≤w'.heap.size→(∀b,T b→¬T0 b→b<w.heap.size→w'.heap[b]? = w.heap[b]?)→Ow w' r T0 [u']→Ow w' (CW d q r) T (cs.set q u')
 | .t ds,q,T,cs,d0,h,hg=>Gg ds q T cs d0 h hg
 | .i n,q,T,cs,d0,h,hg=>yP (r:=.i n) h ⟨_,h.1⟩ hg
 | .s n,q,T,cs,d0,h,hg=>yP (r:=.s n) h ⟨_,h.1⟩ hg
 | .b n,q,T,cs,d0,h,hg=>yP (r:=.b n) h ⟨_,h⟩ hg
 | .n z,q,T,cs,d0,h,hg=>yP (r:=.n z) h (h.elim fun a ha=>⟨_,ha⟩) hg
 | .l z xs,q,T,cs,d0,h,hg=>yP (r:=.l z xs) h (h.elim fun a ha=>ha.elim fun k hk=>⟨_,hk.1⟩) hg
 | .p _,q,T,cs,d0,h,hg=>h.elim
 | .f _ _,q,T,cs,d0,h,hg=>h.elim
 | .any,q,T,cs,d0,h,hg=>h.elim
theorem Gg {w:World}:∀(ds:List D) (q:Nat) (T:BS) (cs:List Value) (d0:D),OwL w ds T cs→GI ds q=some d0→∃(T0:BS) (u:Value),(∀x,T0 x→T x)∧cs[q]? = some u∧Ow w d0 T0 [u]∧∀(w':World) (r:D) (u':Value),w.heap.size≤w'.heap.size→(∀b,T b→¬T0 b→b<w.heap.size→w'.heap[b]? = w.heap[b]?)→Ow w' r T0 [u']→OwL w' (F8 ds q r) T (cs.set q u')
 | [],q,T,cs,d0,h,hg=>by cases hg
 | d :: ds,q,T,cs,d0,⟨T1,T2,c,e,h1,h2,h3,h4,h5,h6⟩,hg=>by
  subst h4
  have hl:=Rp.len d c (Ow.rp d T1 c h5)
  unfold GI at hg
  cases hq:Nat.blt q d.sz with
  | true=>
   rw [hq] at hg
   have hlt:=Nat.blt_eq.mp hq
   obtain ⟨T0,u,k1,k2,k3,k4⟩:=Hq d q T1 c d0 h5 hg
   refine ⟨T0,u,fun x hx=>h1 x (k1 x hx),by rw [List.getElem?_append_left (by omega)];exact k2,k3,fun w' r u' hs hag hr=>?_⟩
   have k5:=k4 w' r u' hs (fun b hb hn hbl=>hag b (h1 b hb) hn hbl) hr
   unfold F8
   rw [hq]
   exact ⟨T1,T2,c.set q u',e,h1,h2,h3,by rw [List.set_append_left _ _ (by omega)],k5,OwL.keep hs ds T2 T2 e (fun _ h=>h) (fun b hb hbl=>hag b (h2 b hb) (fun h0=>h3 b (k1 b h0) hb) hbl) h6⟩
  | false=>
   rw [hq] at hg
   have hge:d.sz≤q:=by
    rcases Nat.lt_or_ge q d.sz with h|h
    ·rw [Nat.blt_eq.mpr h] at hq;cases hq
    ·exact h
   obtain ⟨T0,u,k1,k2,k3,k4⟩:=Gg ds (q - d.sz) T2 e d0 h6 hg
   refine ⟨T0,u,fun x hx=>h2 x (k1 x hx),by rw [List.getElem?_append_right (by omega),hl];exact k2,k3,fun w' r u' hs hag hr=>?_⟩
   have k5:=k4 w' r u' hs (fun b hb hn hbl=>hag b (h2 b hb) hn hbl) hr
   unfold F8
   rw [hq]
   exact ⟨T1,T2,c,e.set (q - d.sz) u',h1,h2,h3,by rw [List.set_append_right _ _ (by omega),hl],Ow.keep hs d T1 T1 c (fun _ h=>h) (fun b hb hbl=>hag b (h1 b hb) (fun h0=>h3 b hb (k1 b h0)) hbl) h5,k5⟩
end
theorem OwR.keep2 {w w':World} (hsz:w.heap.size≤w'.heap.size):∀(ds:List D) (U:BS) (z b o:Nat),fR U w w'→(∀j,o≤j→w'.cell? ⟨b,j,none⟩=w.cell? ⟨b,j,none⟩)→OwR w ds U z b o→OwR w' ds U z b o
 | [],U,z,b,o,h,hb,r=>trivial
 | d :: ds,U,z,b,o,h,hb,⟨U1,U2,h1,h2,h3,⟨cs,h4,h5,h6⟩,h7⟩=>⟨U1,U2,h1,h2,h3,⟨cs,h4,Ow.keep hsz d U1 U1 cs (fun _ h=>h) (fun c hc=>h c (h1 c hc)) h5,fun j u hj=>(hb (o+j) (by omega)).trans (h6 j u hj)⟩,OwR.keep2 hsz ds U2 z b (o+z) (fun c hc=>h c (h2 c hc)) (fun j hj=>hb j (by omega)) h7⟩
theorem ED {w:World}:∀(ds:List D) (n:Nat) (U:BS) (z b o:Nat),OwR w ds U z b o→∀hn:n<ds.length,∃(Tn:BS) (cs:List Value),(∀x,Tn x→U x)∧cs.length=z∧Ow w ds[n] Tn cs∧bE w b (o+n * z) cs∧∀(w':World) (r:D) (cs':List Value),w.heap.size≤w'.heap.size→(∀c,U c→¬Tn c→c<w.heap.size→w'.heap[c]? = w.heap[c]?)→(∀j,j<o+n * z∨o+n * z+z≤j→w'.cell? ⟨b,j,none⟩=w.cell? ⟨b,j,none⟩)→Ow w' r Tn cs'→cs'.length=z→bE w' b (o+n * z) cs'→OwR w' (ds.set n r) U z b o
 | [],n,U,z,b,o,h,hn=>absurd hn (Nat.not_lt_zero _)
 | d :: ds,0,U,z,b,o,⟨U1,U2,h1,h2,h3,⟨cs,h4,h5,h6⟩,h7⟩,hn=>by
  refine ⟨U1,cs,h1,h4,h5,by rw [Nat.zero_mul,Nat.add_zero];exact h6,fun w' r cs' hs hag hc hr hl hca=>?_⟩
  rw [Nat.zero_mul,Nat.add_zero] at hc hca
  exact ⟨U1,U2,h1,h2,h3,⟨cs',hl,hr,hca⟩,OwR.keep2 hs ds U2 z b (o+z) (fun c hcu hcl=>hag c (h2 c hcu) (fun h=>h3 c h hcu) hcl) (fun j hj=>hc j (.inr hj)) h7⟩
 | d :: ds,n+1,U,z,b,o,⟨U1,U2,h1,h2,h3,⟨cs0,h4,h5,h6⟩,h7⟩,hn=>by
  obtain ⟨Tn,cs,k1,k2,k3,k4,k5⟩:=ED ds n U2 z b (o+z) h7 (by simpa using hn)
  have e:o+z+n * z=o+(n+1) * z:=by rw [Nat.succ_mul];omega
  rw [e] at k4 k5
  refine ⟨Tn,cs,fun x hx=>h2 x (k1 x hx),k2,k3,k4,fun w' r cs' hs hag hc hr hl hca=>?_⟩
  refine ⟨U1,U2,h1,h2,h3,⟨cs0,h4,Ow.keep hs d U1 U1 cs0 (fun _ h=>h) (fun c hcu hcl=>hag c (h1 c hcu) (fun h=>h3 c hcu (k1 c h)) hcl) h5,fun j u hj=>?_⟩,k5 w' r cs' hs (fun c hcu hn' hcl=>hag c (h2 c hcu) hn' hcl) hc hr hl hca⟩
  have hj':=(List.getElem?_eq_some_iff.1 hj).1
  have hz:z≤(n+1) * z:=Nat.le_mul_of_pos_left z (Nat.succ_pos n)
  exact (hc (o+j) (.inl (by omega))).trans (h6 j u hj)
theorem qS {w:World} {z:Nat} {xs:List D} {S:BS} {v:Value} (h:Ow w (.l z xs) S [v]) {n f:Nat} {e d0:D} (he:xs[n]? = some e) (hg:CG e f=some d0):∃(b o k:Nat) (T0:BS) (u:Value),v=.slice (some ⟨b,o,none⟩) xs.length k∧S b∧b<w.heap.size∧(∀q,w.frozen? ⟨b,q,none⟩=false)∧(∀x,T0 x→S x∧x≠b)∧w.cell? ⟨b,o+(n * z+f),none⟩=some u∧Ow w d0 T0 [u] ∧
 ∀(w':World) (r:D) (u':Value),w.heap.size≤w'.heap.size→(∀c,S c→c≠b→¬T0 c→c<w.heap.size→w'.heap[c]? = w.heap[c]?)→(∀q,w'.frozen? ⟨b,q,none⟩=false)→(∀j,j≠o+(n * z+f)→w'.cell? ⟨b,j,none⟩=w.cell? ⟨b,j,none⟩)→w'.cell? ⟨b,o+(n * z+f),none⟩=some u'→Ow w' r T0 [u']→Ow w' (.l z (xs.set n (CW e f r))) S [v]:=by
 obtain ⟨hn,he⟩:=List.getElem?_eq_some_iff.1 he
 obtain ⟨a,k,h1,h2,h3,h4,h5⟩:=h
 cases h1
 rcases h5 with h5|⟨b,o,U,rfl,e2,e3,e4,e5,e6⟩
 ·rw [h5] at hn;exact absurd hn (Nat.not_lt_zero _)
 obtain ⟨Tn,cs,k1,k2,k3,k4,k5⟩:=ED xs n U z b o e6 hn
 rw [he] at k3
 obtain ⟨T0,u,q1,q2,q3,q4⟩:=Hq e f Tn cs d0 k3 hg
 have hf:f<cs.length:=(List.getElem?_eq_some_iff.1 q2).1
 refine ⟨b,o,k,T0,u,rfl,e2,e3,e4,fun x hx=>e5 x (k1 x (q1 x hx)),by rw [← Nat.add_assoc];exact k4 f u q2,q3,fun w' r u' hs hag hfr hc hcu hr=>?_⟩
 have q5:=q4 w' r u' hs (fun c hc1 hc2 hc3=>hag c (e5 c (k1 c hc1)).1 (e5 c (k1 c hc1)).2 hc2 hc3) hr
 have hlen:(xs.set n (CW e f r)).length=xs.length:=List.length_set
 refine ⟨some ⟨b,o,none⟩,k,by rw [hlen],by rw [hlen];exact h2,h3,h4,.inr ⟨b,o,U,rfl,e2,Nat.lt_of_lt_of_le e3 hs,hfr,e5,k5 w' _ (cs.set f u') hs (fun c hc1 hc2 hc3=>hag c (e5 c hc1).1 (e5 c hc1).2 (fun h=>hc2 (q1 c h)) hc3) (fun j hj=>hc j (by omega)) q5 (by rw [List.length_set];exact k2) (fun j v' hj=>?_)⟩⟩
 rw [List.getElem?_set] at hj
 by_cases ej:f=j
 ·subst ej
  rw [if_pos rfl,if_pos hf] at hj
  cases hj
  rw [Nat.add_assoc];exact hcu
 ·rw [if_neg ej] at hj
  rw [hc _ (by omega)]
  exact k4 j v' hj
theorem Chg.mono {S S':BS} {w w':World} (h:Chg S w w') (hS:∀b,S b→S' b):Chg S' w w':=⟨h.os,h.tape,h.output,h.size,fun b hb hn=>h.block b hb (fun h'=>hn (hS b h'))⟩
structure FnM (P:Program) (f:FuncId) (d d':D) (k k':Int):Prop where
 enter:∀args w,(callFunc f args).run P w=.ok (.enter f args) w
 calls:∀(T:BS) (w:World) (v:Value),Ow w d T [v]→(∀b,T b→b<w.heap.size)→Calls P f #[v,.int .i64 k] w fun e w'=>e=.returned (.int .i64 k')∧I64 k'∧Chg T w w'∧Ow w' d' T [v]
section
variable {P:Program} {ops:Array Oper} {W0:cf} {N:Nat} {Fin:Us→Env→Prop} {os:List Oper} {us:Us} {pk fk:List Nat} {σ:Env} {g:Option (Nat × Bool)} {gk:List Nat} {d ty ty' f:Nat} {pos:String} {after:Array Edge} {at':Array TypeId} {x y:Operand} {i z n q o:Nat} {xs:List D} {tag:Option (Value × BS)} {pin:Option (Nat × Value)} {s:Sy}
theorem x8 {t e:Nat} (h:Der P ops W0 N Fin os (us++[((d :: (gk++(i :: kx x)))++pk,([d])++fk)]) [] [] ((d,.sy (.d (.i xs.length))) :: σ)) (hx:ev σ x=some (.k i):=by rfl) (hi:au σ i=some (.tk (.own (.l z xs) pin tag)):=by rfl) (ht:elem? P t=some e:=by rfl) (hg:gst ops σ g=some (true,gk):=by rfl) (hN:Nat.blt d N=true:=by rfl) (hs:aM σ d=true:=by rfl):Der P ops W0 N Fin (⟨some d,.call { callee:=.builtin .len,args:=#[x],argTypes:=#[t] },ty,pos,after,g⟩ :: os) us pk fk σ:=
 b6 (.d (.i xs.length)) (i :: kx x) (fun σ' c a w hk hc=>by
  obtain ⟨_,⟨⟨ad,k,h1,h2,h3,_⟩,_⟩,_⟩:=hc.tok i _ ((hk i (by simp)).trans hi)
  obtain ⟨_,hv⟩:=av hc (af hx (fun κ hκ=>hk κ (by simp [hκ])))
  rw [(List.cons.inj h1).1] at hv
  exact ⟨_,jr ht hv,rfl,I64.nat (Nat.le_trans h2 h3)⟩) h hg hN hs
theorem yl {n e:Nat} (h:Der P ops W0 N Fin os (us++[((d :: (gk++(i :: (kx x++kx y))))++pk,([d])++fk)]) [] [] ((d,.sy (.eo i (n * z))) :: σ)) (hx:ev σ x=some (.k i):=by rfl) (hi:au σ i=some (.tk (.own (.l z xs) pin tag)):=by rfl) (hy:ev σ y=some s:=by rfl) (hn':s.int? = some (n:Int):=by rfl) (he:elem? P ty'=some e:=by rfl) (hz:sizeOf? P e=some z:=by rfl) (hg:gst ops σ g=some (true,gk):=by rfl) (hN:Nat.blt d N=true:=by rfl) (hs:aM σ d=true:=by rfl) (hn:n<xs.length:=by first|assumption|(rw [List.length_set];assumption)):Der P ops W0 N Fin (⟨some d,.indexAddr ty' x y,ty,pos,after,g⟩ :: os) us pk fk σ:=
 b6 (.eo i (n * z)) (i :: (kx x++kx y)) (fun σ' c a w hk hc=>by
  obtain ⟨hA,⟨⟨ad,k,h1,h2,h3,h4,h5⟩,_⟩,_⟩:=hc.tok i _ ((hk i (by simp)).trans hi)
  obtain ⟨_,hv⟩:=av hc (af hx (fun κ hκ=>hk κ (by simp [hκ])))
  have hyv:=ex hn' (av hc (af hy (fun κ hκ=>hk κ (by simp [hκ]))))
  have h1':=(List.cons.inj h1).1
  rcases h5 with h5|⟨b,o,U,rfl,_⟩
  ·rw [h5] at hn;exact absurd hn (Nat.not_lt_zero _)
  refine ⟨_,d7 (X:=Instr.indexAt ty' (a.eval x) (a.eval y)) (by rw [hv,hyv,h1'];exact oC he hz hn),hA,b,o,_,k,h1',rfl⟩) h hg hN hs
theorem x6 {k:Nat} (h:Der P ops W0 N Fin os (us++[((d :: (gk++kx x))++pk,([d])++fk)]) [] [] ((d,.sy (.eo i (q+o))) :: σ)) (hx:ev σ x=some (.eo i q):=by rfl) (ho:fld P ty' k=some o:=by rfl) (hg:gst ops σ g=some (true,gk):=by rfl) (hN:Nat.blt d N=true:=by rfl) (hs:aM σ d=true:=by rfl):Der P ops W0 N Fin (⟨some d,.fieldAddr ty' x k,ty,pos,after,g⟩ :: os) us pk fk σ:=
 b6 (.eo i (q+o)) (kx x) (fun σ' c a w hk hc=>by
  obtain ⟨hA,b,o',m,cp,h1,h2⟩:=av hc (af hx (fun κ hκ=>hk κ hκ))
  refine ⟨_,d7 (X:=Instr.fieldAt ty' (a.eval x) k) (by rw [h2];exact oD ho),hA,b,o',m,cp,h1,by rw [Nat.add_assoc]⟩) h hg hN hs
def Ft:D→Bool
 | .i _=>true
 | .s _=>true
 | .b _=>true
 | _=>false
theorem tU (n f:Nat) {e d0 r:D} (xs':List D) (he:xs[n]? = some e) (hxs:xs.set n (CW e f r)=xs') (h:Der P ops W0 N Fin os (us++[((gk++(i :: (kx x++kx y)))++pk,([i])++fk)]) [] [] ((i,.tk (.own (.l z xs') none tag)) :: σ)) (hg':CG e f=some d0:=by rfl) (hx:ev σ x=some (.eo i q):=by rfl) (hi:au σ i=some (.tk (.own (.l z xs) none tag)):=by rfl) (hy:ev σ y=some (.d r):=by rfl) (hr:Ft r=true:=by rfl) (hq:q=n * z+f:=by rfl) (hz:sizeOf? P ty'=some 1:=by rfl) (hg:gst ops σ g=some (true,gk):=by rfl):Der P ops W0 N Fin (⟨none,.store ty' x y,ty,pos,after,g⟩ :: os) us pk fk σ:=
 lI (i :: (kx x++kx y)) [(i,.tk (.own (.l z xs') none tag))] (fun σ' c a w hk hc=>by
  subst hq
  have hi':=(hk i (by simp)).trans hi
  obtain ⟨hA,⟨hO,_,htag⟩,hlt⟩:=hc.tok i _ hi'
  obtain ⟨_,b',o',m',k',e1,e2⟩:=av hc (af hx (fun κ hκ=>hk κ (by simp [hκ])))
  have hv:=av hc (af hy (fun κ hκ=>hk κ (by simp [hκ])))
  obtain ⟨b,o,k,T0,u,h1,h2,h3,h4,h5,h6,h7,h8⟩:=qS hO he hg'
  rw [h1] at e1
  cases e1
  have hone:(a.eval y).oneCell'=true∧∀(w':World) (T:BS),Ow w' r T [a.eval y]:=by
   cases r with
   | i n=>obtain ⟨q1,q2⟩:=hv;rw [(List.cons.inj q1).1];exact ⟨rfl,fun _ _=>⟨rfl,q2⟩⟩
   | s n=>obtain ⟨q1,q2⟩:=hv;rw [(List.cons.inj q1).1];exact ⟨rfl,fun _ _=>⟨rfl,q2⟩⟩
   | b n=>have q1 : [a.eval y] = [Value.bool n]:=hv;rw [(List.cons.inj q1).1];exact ⟨rfl,fun _ _=>rfl⟩
   | _=>cases hr
  unfold Oper.wp
  rw [gH hz hone.1 h6 (h4 _) e2 rfl]
  have hch:Chg (c.T i) w (w.setCell ⟨b',o'+(n * z+f),none⟩ (a.eval y)):=Chg.grown (bO b' _ _) (fun g hg=>by cases hg;exact h2)
  have hbx:dj (w.setCell ⟨b',o'+(n * z+f),none⟩ (a.eval y)) b' []:=fun j v hj=>by simp at hj
  refine ⟨rfl,c,hc.upd hi' hch (by simp) (fun hag=>⟨?_,fun p hp=>(by cases hp),htag⟩)⟩
  rw [← hxs]
  refine h8 _ r (a.eval y) (by simp) (fun c' hc1 hc2 _ _=>(bO b' _ _).block c' (by assumption) (fun e=>hc2 (by cases e;rfl))) (fun q=>?_) (fun j hj=>?_) ?_ (hone.2 _ _)
  ·rw [World.frozen?_setCell];exact h4 q
  ·exact World.cell?_setCell_other _ _ _ _ (fun e=>hj (by cases e;rfl))
  ·exact World.cell?_setCell_same _ _ _ h6) h hg
theorem Chg.rfl' {S:BS} {w:World}:Chg S w w:=⟨rfl,rfl,rfl,Nat.le_refl _,fun _ _ _=>rfl⟩
theorem G5 {C:Code} {Q:Exit→Act→World→Prop} (i n f:Nat) {e d0:D} (he:xs[n]? = some e) (h:∀u:Value,az P W0 N C ((i,.tk (.own (.l z xs) (some (n * z+f,u)) tag)) :: σ) Q) (hg':CG e f=some d0:=by rfl) (hi:au σ i=some (.tk (.own (.l z xs) none tag)):=by rfl):az P W0 N C σ Q:=by
 intro a w ⟨c,hc⟩
 obtain ⟨hA,⟨hO,_,htag⟩,hlt⟩:=hc.tok i _ hi
 obtain ⟨b,o,k,T0,u,h1,h2,h3,h4,h5,h6,h7,h8⟩:=qS hO he hg'
 exact h u a w ⟨c,hc.upd2 hi Chg.rfl' (fun _=>⟨hO,fun p hp=>by cases hp;exact ⟨b,o,_,k,h1,h2,h6⟩,htag⟩)⟩
theorem tP {dd:D} {u:Value} (h:Der P ops W0 N Fin os (us++[((d :: (gk++(i :: kx x)))++pk,([d])++fk)]) [] [] ((d,.sy (.v u)) :: σ)) (hx:ev σ x=some (.eo i q):=by rfl) (hi:au σ i=some (.tk (.own dd (some (q,u)) tag)):=by rfl) (hz:sizeOf? P ty'=some 1:=by rfl) (hA:isAgg? P ty'=some false:=by rfl) (hg:gst ops σ g=some (true,gk):=by rfl) (hN:Nat.blt d N=true:=by rfl) (hs:aM σ d=true:=by rfl):Der P ops W0 N Fin (⟨some d,.load ty' x,ty,pos,after,g⟩ :: os) us pk fk σ:=
 b6 (.v u) (i :: kx x) (fun σ' c a w hk hc=>by
  obtain ⟨_,⟨_,hp,_⟩,_⟩:=hc.tok i _ ((hk i (by simp)).trans hi)
  obtain ⟨b,o,m,k,h1,h2,h3⟩:=hp _ rfl
  obtain ⟨_,b',o',m',k',e1,e2⟩:=av hc (af hx (fun κ hκ=>hk κ (by simp [hκ])))
  rw [h1] at e1
  cases e1
  exact ⟨u,d7 (X:=Instr.loadAt ty' (a.eval x)) (by rw [e2];exact iU hA h3),rfl⟩) h hg hN hs
theorem EQ (n f':Nat) {e d0 d':D} {k k':Int} {u:Value} (xs':List D) (he:xs[n]? = some e) (hxs:xs.set n (CW e f' d')=xs') (h:Der P ops W0 N Fin os (us++[((d :: (gk++(i :: (kx x++kx y))))++pk,([d,i])++fk)]) [] [] ((d,.sy (.d (.i k'))) :: (i,.tk (.own (.l z xs') none tag)) :: σ)) (hg':CG e f'=some d0:=by rfl) (hf:FnM P f d0 d' k k':=by assumption) (hx:ev σ x=some (.v u):=by rfl) (hy:ev σ y=some (.d (.i k)):=by rfl) (hi:au σ i=some (.tk (.own (.l z xs) (some (q,u)) tag)):=by rfl) (hq:q=n * z+f':=by rfl) (hg:gst ops σ g=some (true,gk):=by rfl) (hN:Nat.blt d N=true:=by rfl) (hs:aM ((i,.tk (.own (.l z xs') none tag)) :: σ) d=true:=by rfl) (hu:Nat.beq i d=false:=by rfl):Der P ops W0 N Fin (⟨some d,.call { callee:=.value (.func f),args:=[x,y].toArray,argTypes:=at' },ty,pos,after,g⟩ :: os) us pk fk σ:=
 me (.d (.i k')) (i :: (kx x++kx y)) [(i,.tk (.own (.l z xs') none tag))] (fun σ' c a w hk hc=>by
  subst hq
  have hi':=(hk i (by simp)).trans hi
  obtain ⟨hA,⟨hO,hp,htag⟩,hlt⟩:=hc.tok i _ hi'
  obtain ⟨b,o,k1,T0,u',h1,h2,h3,h4,h5,h6,h7,h8⟩:=qS hO he hg'
  obtain ⟨b2,o2,m2,k2,e1,e2,e3⟩:=hp _ rfl
  rw [h1] at e1
  have e6:=Value.slice.inj e1
  have e7:b=b2:=by injection Option.some.inj e6.1
  have e8:o=o2:=by injection Option.some.inj e6.1
  subst e7;subst e8
  have e4:some u'=some u:=h6.symm.trans e3
  have e5:u'=u:=Option.some.inj e4
  subst e5
  have hxv:a.eval x=u':=av hc (af hx (fun κ hκ=>hk κ (by simp [hκ])))
  obtain ⟨hyv,_⟩:=av hc (af hy (fun κ hκ=>hk κ (by simp [hκ])))
  unfold Oper.wp
  rw [b9 hf.enter rfl]
  show Calls P f (#[a.eval x,a.eval y]) w _
  rw [hxv,(List.cons.inj hyv).1]
  refine (hf.calls T0 w u' h7 (fun b hb=>(hlt b (h5 b hb).1).2.1)).mono ?_
  rintro en w' ⟨rfl,hk',hch,hok⟩
  have hch':Chg (c.T i) w w':=hch.mono (fun b hb=>(h5 b hb).1)
  refine ⟨_,c,rfl,hc.upd2 hi' hch' (fun hag=>⟨?_,fun p hp=>(by cases hp),htag⟩),rfl,hk'⟩
  rw [← hxs]
  have hbk:w'.heap[b]? = w.heap[b]?:=hch.block b h3 (fun hb=>(h5 _ hb).2 rfl)
  exact h8 w' d' u' hch.size (fun c' hc1 hc2 hc3 hc4=>hch.block c' hc4 hc3) (fun q=>(World.frozen?_of_block hbk).trans (h4 q)) (fun j _=>World.cell?_of_block hbk) ((World.cell?_of_block hbk).trans h6) hok) h hg hN hs (by simp [hu])
theorem jG {d0 d':D} {k k':Int} (h:Der P ops W0 N Fin os (us++[((d :: (gk++(i :: (kx x++kx y))))++pk,([d,i])++fk)]) [] [] ((d,.sy (.d (.i k'))) :: (i,.tk (.own d' none tag)) :: σ)) (hx:ev σ x=some (.k i):=by rfl) (hi:au σ i=some (.tk (.own d0 none tag)):=by rfl) (hy:ev σ y=some (.d (.i k)):=by rfl) (hf:FnM P f d0 d' k k':=by assumption) (hg:gst ops σ g=some (true,gk):=by rfl) (hN:Nat.blt d N=true:=by rfl) (hs:aM ((i,.tk (.own d' none tag)) :: σ) d=true:=by rfl) (hu:Nat.beq i d=false:=by rfl):Der P ops W0 N Fin (⟨some d,.call { callee:=.value (.func f),args:=[x,y].toArray,argTypes:=at' },ty,pos,after,g⟩ :: os) us pk fk σ:=
 me (.d (.i k')) (i :: (kx x++kx y)) [(i,.tk (.own d' none tag))] (fun σ' c a w hk hc=>by
  have hi':=(hk i (by simp)).trans hi
  obtain ⟨hA,⟨hO,hp,htag⟩,hlt⟩:=hc.tok i _ hi'
  obtain ⟨_,hxv⟩:=av hc (af hx (fun κ hκ=>hk κ (by simp [hκ])))
  obtain ⟨hyv,_⟩:=av hc (af hy (fun κ hκ=>hk κ (by simp [hκ])))
  unfold Oper.wp
  rw [b9 hf.enter rfl]
  show Calls P f (#[a.eval x,a.eval y]) w _
  rw [hxv,(List.cons.inj hyv).1]
  refine (hf.calls (c.T i) w _ hO (fun b hb=>(hlt b hb).2.1)).mono ?_
  rintro en w' ⟨rfl,hk',hch,hok⟩
  exact ⟨_,c,rfl,hc.upd2 hi' hch (fun hag=>⟨hok,fun p hp=>(by cases hp),htag⟩),rfl,hk'⟩) h hg hN hs (by simp [hu])
theorem Et {ds:List D} {n:Nat} {e:D} (h:n<ds.length):(ds.set n e)[n]? = some e:=by rw [List.getElem?_set_self h]
theorem kl {n f:Nat} {e d0 r:D} (h:Der P ops W0 N Fin os (us++[((gk++(i :: (kx x++kx y)))++pk,([i])++fk)]) [] [] ((i,.tk (.own (.l z (xs.set n (CW e f r))) none tag)) :: σ)) (hx:ev σ x=some (.eo i q):=by rfl) (hi:au σ i=some (.tk (.own (.l z (xs.set n e)) none tag)):=by rfl) (hq:q=n * z+f:=by first|rfl|exact (Nat.add_zero _).symm) (hg':CG e f=some d0:=by rfl) (hy:ev σ y=some (.d r):=by rfl) (hr:Ft r=true:=by rfl) (hz:sizeOf? P ty'=some 1:=by rfl) (hg:gst ops σ g=some (true,gk):=by rfl) (hn:n<xs.length:=by assumption):Der P ops W0 N Fin (⟨none,.store ty' x y,ty,pos,after,g⟩ :: os) us pk fk σ:=
 tU n f _ (Et hn) (List.set_set ..) h hg' hx hi hy hr hq hz hg
theorem nu {C:Code} {Q:Exit→Act→World→Prop} (i f:Nat) {n:Nat} {e d0:D} (h:∀u:Value,az P W0 N C ((i,.tk (.own (.l z (xs.set n e)) (some (n * z+f,u)) tag)) :: σ) Q) (hi:au σ i=some (.tk (.own (.l z (xs.set n e)) none tag)):=by rfl) (hg':CG e f=some d0:=by rfl) (hn:n<xs.length:=by assumption):az P W0 N C σ Q:=G5 i n f (Et hn) h hg' hi
theorem vz {j n f':Nat} {e d0 d':D} {k k':Int} {u:Value} (h:Der P ops W0 N Fin os (us++[((d :: (gk++(j :: (kx x++kx y))))++pk,([d,j])++fk)]) [] [] ((d,.sy (.d (.i k'))) :: (j,.tk (.own (.l z (xs.set n (CW e f' d'))) none tag)) :: σ)) (hx:ev σ x=some (.v u):=by rfl) (hj:20000=j:=by rfl) (hi:au σ j=some (.tk (.own (.l z (xs.set n e)) (some (q,u)) tag)):=by rfl) (hq:q=n * z+f':=by first|rfl|exact (Nat.add_zero _).symm) (hg':CG e f'=some d0:=by rfl) (hy:ev σ y=some (.d (.i k)):=by rfl) (hf:FnM P f d0 d' k k':=by assumption) (hg:gst ops σ g=some (true,gk):=by rfl) (hN:Nat.blt d N=true:=by rfl) (hs:aM ((j,.tk (.own (.l z (xs.set n (CW e f' d'))) none tag)) :: σ) d=true:=by rfl) (hu:Nat.beq j d=false:=by rfl) (hn:n<xs.length:=by assumption):Der P ops W0 N Fin (⟨some d,.call { callee:=.value (.func f),args:=[x,y].toArray,argTypes:=at' },ty,pos,after,g⟩ :: os) us pk fk σ:=
 EQ n f' _ (Et hn) (List.set_set ..) h hg' hf hx hy hi hq hg hN hs hu
end
def F4 (d:D) (v:Value) (T:BS) (k:Int):Env:=[(0,.sy (.k 20000)),(20000,.tk (.own d none (some (v,T)))),(1,.sy (.d (.i k)))]
def Ga (W0:cf) (v:Value) (d':D) (k':Int):Ending→World→Prop:=fun e w'=>e=.returned (.int .i64 k')∧I64 k'∧Chg W0.M W0.w w'∧Ow w' d' W0.M [v]
def WfO:D→Prop
 | .l _ xs=>xs.length≤9223372036854775807
 | _=>True
theorem Gv {w:World} {d:D} {T:BS} {v:Value} (h:Ow w d T [v]):WfO d:=by
 cases d with
 | l z xs=>obtain ⟨a,k,h1,h2,h3,_⟩:=h;unfold maxLen at h3;exact Nat.le_trans h2 h3
 | _=>exact trivial
theorem oX {P : Program} {f : FuncId} {d d' : D} {k k' : Int} {fn : Func} {c : Code} {N : Nat} (hf : P.funcs[f]? = some fn) (hk : I64 k) (h : ∀ (W0 : cf) (v : Value) (M : BS), W0.M = M → WfO d → az P W0 N c (F4 d v M k) (bodyPost P fn (Ga W0 v d' k'))) (hb : fn.body = some c := by rfl) (hN : fn.ntmps = N := by rfl) (hl : Nat.ble 2 N = true := by rfl) (hnm : (fn.name == "runtime.NumGoroutine") = false := by kernel_rfl) : FnM P f d d' k k' := by
 refine ⟨fun args w=>?_,fun T w v hv hT=>?_⟩
 ·unfold callFunc
  simp only [Sem.run_bind,show (program).run P w=.ok P w from rfl,Result.andThen_ok,hf,hnm,hb]
  rfl
 ·have hl':=Nat.le_of_ble_eq_true hl
  have look20:au (F4 d v T k) 20000=some (.tk (.own d none (some (v,T)))):=rfl
  have key:∀(i:Nat) (t:Tk),au (F4 d v T k) i=some (.tk t)→i=20000∧t=.own d none (some (v,T)):=fun i t hi=>by
   unfold F4 at hi
   simp only [ah] at hi
   split at hi
   ·cases hi
   ·split at hi
    ·rename_i e;cases hi;exact ⟨e.symm,rfl⟩
    ·split at hi
     ·cases hi
     ·cases hi
  refine calls_of_wp hf hb (h ⟨w,fun _=>False,T⟩ v T rfl (Gv hv) _ w ⟨⟨fun _=>False,fun _=>v,fun _=>T,fun i=>i=20000⟩,Chg.rfl',fun b hb=>hb.elim,fun b hb=>hb.elim,?_,rfl,fun i hi=>by rw [show i=20000 from hi,look20];simp,fun i t ht=>?_,fun i j t u hi hj hne=>absurd ((key i t hi).1.trans (key j u hj).1.symm) hne,fun t s ht=>?_⟩)
  ·simp [hN];omega
  ·obtain ⟨rfl,rfl⟩:=key i t ht
   exact ⟨rfl,⟨hv,fun p hp=>(by cases hp),fun p hp=>by cases hp;exact ⟨rfl,rfl⟩⟩,fun b hb=>⟨fun h=>h,hT b hb,.inl hb⟩⟩
  ·unfold F4 at ht
   simp only [ah] at ht
   split at ht
   ·rename_i e
    cases ht;subst e
    exact ⟨v,by rw [Array.getElem?_append_left (by simp)];rfl,rfl,rfl⟩
   ·split at ht
    ·cases ht
    ·split at ht
     ·rename_i e
      cases ht;subst e
      exact ⟨.int .i64 k,by rw [Array.getElem?_append_left (by simp)];rfl,rfl,hk⟩
     ·cases ht
theorem Ef {P:Program} {W0:cf} {N:Nat} {σ:Env} {fn:Func} {rs:List ResultVar} {v:Value} {M:BS} {d':D} {k':Int} (hM:W0.M=M) (hr:fn.results=rs.toArray:=by rfl) (hd:Cc P σ rs=some [.i k']:=by rfl) (ht:au σ 20000=some (.tk (.own d' none (some (v,M)))):=by rfl):At W0 N σ .ret (bodyPost P fn (Ga W0 v d' k')):=fun a w hh=>by
 obtain ⟨c,h⟩:=hh
 obtain ⟨vs,h1,u,t,rfl,⟨h2,h2'⟩,h3⟩:=rB h rs _ hd
 have:t = []:=h3
 subst this
 obtain ⟨_,⟨hO,_,htag⟩,_⟩:=h.tok _ _ ht
 obtain ⟨e1,e2⟩:=htag _ rfl
 rw [e1,e2] at hO
 refine bodyPost_ret (v:=u) ?_ h.defers ⟨by rw [(List.cons.inj h2).1],h2',h.ext,by rw [hM];exact hO⟩
 rw [iM,hr,Array.mapM_eq_mapM_toList,show rs.toArray.toList=rs from rfl]
 simp only [Sem.run_bind,Sem.run_map,h1]
 simp [Result.andThen]
end Go.Proofs.YtclpbhoekmecjaaGreatDoor
namespace Go.Proofs.YtclpbhoekmecjaaGreatDoor
open Go.RowKit
set_option linter.unusedVariables false
set_option linter.unusedSimpArgs false
attribute [local irreducible] te
def ov (r:Int):ByteArray:=if 0<r then te r else ⟨#[]⟩
theorem xb (r:Int) (h:0<r):ov r=ov (r / 10)++te (r % 10):=by
 unfold ov
 rw [if_pos h]
 by_cases h1:10≤r
 ·rw [if_pos (by omega),B7 r h1]
 ·rw [if_neg (by omega),show r % 10=r by omega]
  rfl
theorem AB (k:Int) (h0:0≤k) (h:k<10):te k=⟨#[UInt8.ofNat (48+k).toNat]⟩:=by
 rw [← xX k h0 h]
 have:k=0∨k=1∨k=2∨k=3∨k=4∨k=5∨k=6∨k=7∨k=8∨k=9:=by omega
 rcases this with rfl|rfl|rfl|rfl|rfl|rfl|rfl|rfl|rfl|rfl <;> rfl
theorem Cu (w:World) (x:Int) (t:TypeId) (h0:0≤x) (h1:x≤255):GZ (w.alloc (.cells #[.int .u8 x] t)) w.heap.size ⟨#[UInt8.ofNat x.toNat]⟩:=by
 intro j hj
 have hj0:j=0:=by simpa using hj
 subst hj0
 have e:((UInt8.ofNat x.toNat).toNat:Int)=x:=by
  have:(UInt8.ofNat x.toNat).toNat=x.toNat % 256:=rfl
  rw [this]
  omega
 rw [World.cell?_alloc_at #[.int .u8 x] t w.heap.size 0 rfl]
 simp [e]
 omega
attribute [local irreducible] ov jZ
set_option maxRecDepth 100000 in
set_option maxHeartbeats 800000 in
theorem oO (n:Int) (w:World) (h0:0≤n) (h1:n≤1000000000) :
 Calls Tryz.prog 69 #[.int .i64 n] w fun e w'=>e=.returned (.string (jZ n))∧Ext w w':=by
 by_cases hn:n≤0
 ·go_enter Tryz.func69,Tryz.ntmps69
  go_wp2
  go_ret
  exact ⟨yN (by unfold jZ;rw [if_pos hn]),xw⟩
 ·go_enter Tryz.func69,Tryz.ntmps69
  go_wp2
  go_loopw [0,3] (fun a t wr=>∃(r:Int) (s:ByteArray),a=.int .i64 r∧t=.string s∧0≤r∧r≤n∧Ext w wr∧Hid (te n=ov r++s)) (fun a _ _=>(intOf a).toNat)
  case atStart=>
   exact ⟨n,⟨#[]⟩,rfl,rfl,h0,Int.le_refl _,xw,Lib.hid (by unfold ov;rw [if_pos (by omega)];exact (ByteArray.ext (by simp)))⟩
  case round=>
   obtain ⟨r,s,rfl,rfl,hr,hrn,hx,HD⟩:=hrel
   have hsz:s.size≤21:=by
    have h2:=wO n (by omega) (by omega)
    rw [HD.out,ByteArray.size_append] at h2
    omega
   by_cases hp:0<r
   ·have hdg:=AB (r % 10) (by omega) (by omega)
    have hl:=Cu wr (48+r % 10) 5 (by omega) (by omega)
    rw [← hdg] at hl
    have hds:(te (r % 10)).size=1:=by rw [hdg];rfl
    have hst:=Lib.hid (xb r hp)
    clear hdg
    go_wp2_with (refine vM rfl 153 9 5 (.tmp 12) rfl hl 1 1 hds rfl Tryz.underlying153 Tryz.underlying5 Tryz.underlying9 ?_)
    go_roundw
    case rel=>exact ⟨r / 10,te (r % 10)++s,rfl,rfl,by omega,by omega,xw,Lib.hid (by rw [HD.out,hst.out,ByteArray.append_assoc])⟩
    ·simp only [intOf];omega
   ·have hr0:r=0:=by omega
    have hms:Hid (jZ n=⟨#[109]⟩++s):=Lib.hid (by unfold jZ;rw [if_neg (by omega),HD.out];unfold ov;rw [if_neg hp];exact congrArg _ (ByteArray.ext (by simp)))
    go_wp2
    go_ret
    exact ⟨yN hms.out.symm,xw⟩
end Go.Proofs.YtclpbhoekmecjaaGreatDoor
namespace Go.Proofs.YtclpbhoekmecjaaGreatDoor
open Go.RowKit
set_option linter.unusedVariables false
set_option linter.unusedSimpArgs false
theorem BI {k:Int} (h0:0≤k) (h1:k≤1000000000):I64 k:=by unfold I64;omega
theorem vj {α:Type} {f:Int→α→α} {c:α→Nat} {fD:α→D} {k:Int} {xs:List α} {ds:List D} {i:Nat} (h:i<xs.length) (hd:ds=(mh f c i k xs).map fD):ds=ds.set i (fD xs[i]):=by
 subst hd
 refine List.ext_getElem? (fun j=>?_)
 rw [List.getElem?_set]
 split
 ·rename_i e;subst e
  rw [List.length_map,rc,if_pos h,List.getElem?_map,List.getElem?_eq_getElem (by rw [rc];exact h),En f c i k xs h];rfl
 ·rfl
theorem vf {α:Type} {f:Int→α→α} {c:α→Nat} {fD:α→D} {k:Int} {xs:List α} {ds:List D} {i:Nat} (hd:ds=(mh f c i k xs).map fD):ds.length=xs.length:=by
 subst hd;rw [List.length_map,rc]
theorem oI {α:Type} {f:Int→α→α} {c:α→Nat} {fD:α→D} {k K:Int} {xs:List α} {ds:List D} {i:Nat} (h:i<xs.length) (hd:ds=(mh f c i k xs).map fD) (hK:K=k+cnL c (xs.take i)):ds.set i (fD (f K xs[i]))=(mh f c (i+1) k xs).map fD:=by
 subst hd;rw [zZ f c i k xs h,List.map_set,hK]
theorem um {α:Type} {f:Int→α→α} {c:α→Nat} {fD:α→D} {k:Int} {xs:List α} {ds:List D} {i:Nat} (h:i=xs.length) (hd:ds=(mh f c i k xs).map fD):ds=(mkL f c k xs).map fD:=by
 subst h;rw [hd,Dc]
theorem qh (i:Nat) {t t':Tk} {P:Program} {W0:cf} {N:Nat} {σ:Env} {Q:Exit→Act→World→Prop} {x:Code} (he:t=t') (h:az P W0 N x ((i,.tk t') :: σ) Q) (hi:au σ i=some (.tk t):=by rfl):az P W0 N x σ Q:=fun a w hh=>h a w (hh.congr fun κ=>by
 rw [ah]
 split
 ·rename_i e;rw [← e,hi,he]
 ·rfl)
def yX:List Oper→Bool
 | []=>true
 | o :: os=>(match o.op with | .load _ _=>false|_=>true) && yX os
theorem GW {P:Program} {W0:cf} {N:Nat} {σ:Env} {Q:Exit→Act→World→Prop} {id:Nat} {os:List Oper} (h:Der P os.toArray W0 N (fun _ σ=>At W0 N σ .normal Q) os [] [] [] σ) (hn:yX os=true:=by rfl):az P W0 N (.region id os.toArray false) σ Q:=fa h
theorem kgm {p q:Prop} (hq:q) (h:Beh q→p:=by intro h0;(repeat (first|(refine ck ?_;first|refine tP ?_|refine bd ?_|refine cC ?_|refine bo ?_|refine bl ?_|refine aY ?_|refine br ?_|refine bw ?_|refine aK ?_|refine bp ?_)|(refine gv ?_;first|refine x6 ?_|refine cd ?_|refine gg ?_|refine ct ?_|refine cz ?_)|(refine gj ?_;first|refine yl ?_|refine uY (h:=?_)|refine cu ?_|refine cq ?_|refine bT ?_|refine ci ?_|refine cw ?_)|(refine gu ?_;first|refine x8 ?_|refine cK ?_|refine fy ?_|refine cH ?_|refine bY ?_|refine cF ?_|refine cE ?_)|(refine fV ?_;first|refine gq ?_|refine fQ ?_|refine ch ?_|refine cb ?_|refine fZ ?_|refine bf ?_|refine bm ?_)|(refine cm ?_;first|refine be ?_|refine cI ?_)|(refine fY ?_;first|refine cG ?_|refine cA ?_|refine gm ?_)|(refine cj ?_;first|refine jG ?_|refine vz ?_|refine cr ?_|refine bj ?_|refine bc ?_|refine bk ?_|refine aX ?_|refine bu ?_)|(refine gr ?_;first|refine cB ?_|refine fS ?_|refine bq ?_)|(refine aW ?_;first|refine kl ?_|refine aC _ ?_|refine bt ?_|refine aG ?_|refine aE ?_|refine aJ ?_)|(refine gh ?_;first|refine co ?_|refine b7 ?_|refine cy ?_)|(refine gOp ?_;first|refine ER ?_|refine gx ?_|refine gd ?_|refine bh ?_|refine fX ?_|refine fW ?_|refine cJ ?_|refine aZ ?_|refine cg ?_|refine gw ?_|refine b8 ?_|refine cL ?_|refine bg ?_|refine aH ?_|refine cD ?_|refine sNo ?_)|refine gC ?_|refine GW ?_|refine gG ?_|refine bA ?_|refine cM ?_|refine bP ?_|refine gL ?_|refine gF ?_|refine gA ?_|refine fm ?_|refine cQ ?_|refine bD ?_|refine aB ?_|refine bB ?_|refine cO ?_|refine bN ?_|refine aBlkX ?_|refine cP ?_));exact h0.out):p:=h ⟨hq⟩
theorem kgr {p q:Prop} (hq:q) (h:Beh q→p:=by intro h0;(repeat (first|(refine ck ?_;first|refine tP ?_|refine bd ?_|refine cC ?_|refine bo ?_|refine bl ?_|refine aY ?_|refine br ?_|refine bw ?_|refine aK ?_|refine bp ?_)|(refine gv ?_;first|refine x6 ?_|refine cd ?_|refine gg ?_|refine ct ?_|refine cz ?_)|(refine gj ?_;first|refine yl ?_|refine uY (h:=?_)|refine cu ?_|refine cq ?_|refine bT ?_|refine ci ?_|refine cw ?_)|(refine gu ?_;first|refine x8 ?_|refine cK ?_|refine fy ?_|refine cH ?_|refine bY ?_|refine cF ?_|refine cE ?_)|(refine fV ?_;first|refine gq ?_|refine fQ ?_|refine ch ?_|refine cb ?_|refine fZ ?_|refine bf ?_|refine bm ?_)|(refine cm ?_;first|refine be ?_|refine cI ?_)|(refine fY ?_;first|refine cG ?_|refine cA ?_|refine gm ?_)|(refine cj ?_;first|refine jG ?_|refine vz ?_|refine cr ?_|refine bj ?_|refine bc ?_|refine bk ?_|refine aX ?_|refine bu ?_)|(refine gr ?_;first|refine cB ?_|refine fS ?_|refine bq ?_)|(refine aW ?_;first|refine kl ?_|refine aC _ ?_|refine bt ?_|refine aG ?_|refine aE ?_|refine aJ ?_)|(refine gh ?_;first|refine co ?_|refine b7 ?_|refine cy ?_)|(refine gOp ?_;first|refine ER ?_|refine gx ?_|refine gd ?_|refine bh ?_|refine fX ?_|refine fW ?_|refine cJ ?_|refine aZ ?_|refine cg ?_|refine gw ?_|refine b8 ?_|refine cL ?_|refine bg ?_|refine aH ?_|refine cD ?_|refine sNo ?_)));exact h0.out):p:=h ⟨hq⟩
theorem kgl {p q:Prop} (hq:q) (h:Beh q→p:=by intro h0;(repeat (first|(refine ck ?_;first|refine tP ?_|refine bd ?_|refine cC ?_|refine bo ?_|refine bl ?_|refine aY ?_|refine br ?_|refine bw ?_|refine aK ?_|refine bp ?_)|(refine gv ?_;first|refine x6 ?_|refine cd ?_|refine gg ?_|refine ct ?_|refine cz ?_)|(refine gj ?_;first|refine yl ?_|refine uY (h:=?_)|refine cu ?_|refine cq ?_|refine bT ?_|refine ci ?_|refine cw ?_)|(refine gu ?_;first|refine x8 ?_|refine cK ?_|refine fy ?_|refine cH ?_|refine bY ?_|refine cF ?_|refine cE ?_)|(refine fV ?_;first|refine gq ?_|refine fQ ?_|refine ch ?_|refine cb ?_|refine fZ ?_|refine bf ?_|refine bm ?_)|(refine cm ?_;first|refine be ?_|refine cI ?_)|(refine fY ?_;first|refine cG ?_|refine cA ?_|refine gm ?_)|(refine cj ?_;first|refine jG ?_|refine vz ?_|refine cr ?_|refine bj ?_|refine bc ?_|refine bk ?_|refine aX ?_|refine bu ?_)|(refine gr ?_;first|refine cB ?_|refine fS ?_|refine bq ?_)|(refine aW ?_;first|refine kl ?_|refine aC _ ?_|refine bt ?_|refine aG ?_|refine aE ?_|refine aJ ?_)|(refine gh ?_;first|refine co ?_|refine b7 ?_|refine cy ?_)|(refine gOp ?_;first|refine ER ?_|refine gx ?_|refine gd ?_|refine bh ?_|refine fX ?_|refine fW ?_|refine cJ ?_|refine aZ ?_|refine cg ?_|refine gw ?_|refine b8 ?_|refine cL ?_|refine bg ?_|refine aH ?_|refine cD ?_|refine sNo ?_)|refine gC ?_|refine fa ?_|refine gG ?_|refine bA ?_|refine cM ?_|refine bP ?_|refine gL ?_|refine gF ?_|refine gA ?_|refine fm ?_|refine cQ ?_|refine bD ?_|refine aB ?_|refine bB ?_|refine cO ?_|refine bN ?_|refine aBlkX ?_|refine cP ?_));exact h0.out):p:=h ⟨hq⟩
end Go.Proofs.YtclpbhoekmecjaaGreatDoor
