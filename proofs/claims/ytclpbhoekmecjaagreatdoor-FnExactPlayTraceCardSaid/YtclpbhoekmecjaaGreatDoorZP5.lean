/-
  Proved facts that the law leans on.
-/
import Derived.Test.YtclpbhoekmecjaaGreatDoorZP4
namespace Go.Proofs.YtclpbhoekmecjaaGreatDoor
open Go.RowKit
set_option linter.unusedVariables false
set_option maxRecDepth 100000
set_option maxHeartbeats 1000000
attribute [local irreducible] az Der At
theorem A7 {sig:List Ctl} {a:Big} (hB:ay sig a=true) (p0:Int) (hp:p0<a.nodes.length):FnD Tryz.prog 133 [.l 3 (sig.map Ctl.D),a.D,.i p0] (.d (.b (kO sig a p0))):=by
 refine ai Tryz.func133 (fun hw W0=>?_)
 refine kgo ?_
 refine eQ (fun p:Int=>p<a.nodes.length∧kO sig a p0=kO sig a p) (fun p=>(p+1).toNat) (fun p=>[(0,.sy (.d (.l 3 (sig.map Ctl.D)))),(2,.sy (.d (.i p))),(4,.sy (.bx 10004 0)),(10004,.tk (.bx (flat a.D)))]) p0 ⟨hp,rfl⟩ (fun p hi=>?_)
 refine kgo ?_
 refine cIf (fun h=>?_) (fun h=>?_)
 ·have h:=of_decide_eq_true h
  obtain ⟨k,rfl⟩:=Int.eq_ofNat_of_zero_le h
  have hk:k<a.nodes.length:=by omega
  have hs:kO sig a k=(rE sig a k || kO sig a (a.nodes[k]).parent):=eN hB _ k hk
  have hu:=iP hB k hk
  obtain ⟨c0,c1,_⟩:=eB hB k hk
  obtain ⟨j,hj⟩:=Int.eq_ofNat_of_zero_le c0
  have hjl:j<sig.length:=by omega
  have hpf:rE sig a k=decide ((sig[j]).kind=1):=by unfold rE;rw [aA a k hk,hj,i8 sig j hjl]
  refine kgo ?_
  refine eV (n:=j) (fun _=>?_) rfl rfl (congrArg some hj)
  refine kgo ?_
  refine cIf (fun h2=>?_) (fun h2=>?_)
  ·refine kgo ?_
   rw [hi.2,hs,hpf,h2]
   exact ax
  ·refine kgo ?_
   exact ab (a.nodes[k]).parent ⟨by omega,by rw [hi.2,hs,hpf,h2];rfl⟩ (by omega)
 ·have h:=of_decide_eq_false h
  refine kgo ?_
  rw [hi.2,show kO sig a p=false from ew _ _ (by omega)]
  exact ax
theorem xR {sig:List Ctl} {a:Big} (hB:ay sig a=true) (m:Mat) (hr:∀p∈m.roots,p<(a.nodes.length:Int)):FnD Tryz.prog 93 [.l 3 (sig.map Ctl.D),a.D,m.D] (.d (.b (iD sig a m.roots))):=by
 refine ai Tryz.func93 (fun hw W0=>?_)
 have hl:=(wfM hw.2.2.1.2.1).1
 refine kgo ?_
 refine eQ (fun i:Nat=>i≤m.roots.length∧(m.roots.take i).all (fun p=>!kO sig a p)=true) (fun i=>m.roots.length - i) (fun i=>[(0,.sy (.d (.l 3 (sig.map Ctl.D)))),(4,.sy (.bx 10004 0)),(10004,.tk (.bx (flat a.D))),(5,.sy (.bx 10005 0)),(10005,.tk (.bx (flat m.D))),(7,.sy (.d (.i i)))]) 0 ⟨Nat.zero_le _,rfl⟩ (fun i hi=>?_)
 refine kgo ?_
 refine cIf (fun h=>?_) (fun h=>?_)
 ·have h:=of_decide_eq_true h
  have hlt:i<m.roots.length:=by omega
  have f1:=A7 hB m.roots[i] (hr _ (List.getElem_mem hlt))
  refine kgo ?_
  refine cIf (fun h2=>?_) (fun h2=>?_)
  ·refine kgo ?_
   rw [show iD sig a m.roots=false from List.all_eq_false.2 ⟨_,List.getElem_mem hlt,by simp [h2]⟩]
   exact ax
  ·refine kgo ?_
   exact ab (i+1) ⟨hlt,by rw [List.take_succ_eq_append_getElem hlt,List.all_append,hi.2];simp [h2]⟩ (by omega)
 ·have h:=of_decide_eq_false h
  refine kgo ?_
  rw [show iD sig a m.roots=true from by rw [← hi.2,List.take_of_length_le (by omega)];rfl]
  exact ax
def dS (a:Big) (ns:List Int) (n:Nat):List Bool:=(List.range n).map (mI a ns)
theorem tX (a:Big) (ns:List Int) (n:Nat):dS a ns (n+1)=dS a ns n++[mI a ns n]:=by unfold dS;rw [List.range_succ,List.map_append];rfl
theorem lw {sig:List Ctl} {a:Big} (hB:ay sig a=true) (m:Mat):FnD Tryz.prog 197 [a.D,m.D] (.d (.l 1 ((dS a m.nodes a.nodes.length).map .b))):=by
 have hn:=(aU hB).2.1
 refine ai Tryz.func197 (fun hw W0=>?_)
 refine kgo ?_
 refine eQ (fun i:Nat=>i≤a.nodes.length) (fun i=>a.nodes.length - i) (fun i=>[(2,.sy (.bx 10002 0)),(10002,.tk (.bx (flat a.D))),(3,.sy (.bx 10003 0)),(10003,.tk (.bx (flat m.D))),(5,.sy (.k 10007)),(10007,.tk (.row 1 4 ((dS a m.nodes i).map .b))),(6,.sy (.d (.i i)))]) 0 (Nat.zero_le _) (fun i hi=>?_)
 refine kgo ?_
 refine cIf (fun h=>?_) (fun h=>?_)
 ·have h:=of_decide_eq_true h
  have hlt:i<a.nodes.length:=by omega
  have f1:=mB m.nodes i
  have f2:=mx hB m i (by omega)
  have hs:(dS a m.nodes (i+1)).map D.b=(dS a m.nodes i).map D.b++[.b (g9 a m.nodes i && !fH m.nodes i)]:=by rw [tX,List.map_append];rfl
  have hl:(dS a m.nodes i).length=i:=by simp [dS]
  cases hc:fH m.nodes i
  ·rw [hc] at hs f1
   simp only [Bool.not_false,Bool.and_true] at hs
   refine kgo ?_
   exact ab (i+1) (by omega) (by omega)
  ·rw [hc] at hs f1
   simp only [Bool.not_true,Bool.and_false] at hs
   refine kgo ?_
   exact ab (i+1) (by omega) (by omega)
 ·have h:=of_decide_eq_false h
  refine kgo ?_
  rw [show i=a.nodes.length by omega]
  exact Hf
end Go.Proofs.YtclpbhoekmecjaaGreatDoor
namespace Go.Proofs.YtclpbhoekmecjaaGreatDoor
open Go.RowKit
set_option linter.unusedVariables false
set_option maxRecDepth 100000
set_option maxHeartbeats 1000000
attribute [local irreducible] az Der At
theorem pE (p by':Int) (ps:List Int) (hok:Dv by' ps p) (hb : -1000≤by'∧by'≤1000):FnD Tryz.prog 324 [.i p,.i by',DI ps] (.d (.i (upF by' ps p))):=by
 refine ai Tryz.func324 (fun hw W0=>?_)
 have h1:=hw.1
 have h2:=(wfM hw.2.2.1).1
 unfold Wf I64 at h1
 unfold Dv at hok
 refine kgo ?_
 refine cIf (fun h=>?_) (fun h=>?_)
 ·have h:=of_decide_eq_true h
  refine kgo ?_
  rw [show upF by' ps p=atI ps (-1 - p) from if_pos h]
  exact ax
 ·have h:=of_decide_eq_false h
  refine kgo ?_
  rw [show upF by' ps p=p+by' from if_neg h]
  exact ax
theorem lz (b:Big) (by':Int) (ps:List Int) (hl:b.sites.length≤1000) (hok:∀p∈b.sites,Dv by' ps p) (hb : -1000≤by'∧by'≤1000):FnD Tryz.prog 302 [b.D,.i by',DI ps] (.row 1 3 ((dx by' ps b.sites).map .i)):=by
 refine ai Tryz.func302 (fun hw W0=>?_)
 refine kgo ?_
 refine eQ (fun i:Nat=>i≤b.sites.length) (fun i=>b.sites.length - i) (fun i=>[(1,.sy (.d (.i by'))),(2,.sy (.d (DI ps))),(3,.sy (.bx 10003 0)),(10003,.tk (.bx (flat b.D))),(7,.sy (.k 10009)),(10009,.tk (.row 1 3 ((dx by' ps (b.sites.take i)).map .i))),(8,.sy (.d (.i i)))]) 0 (Nat.zero_le _) (fun i hi=>?_)
 refine kgo ?_
 refine cIf (fun h=>?_) (fun h=>?_)
 ·have h:=of_decide_eq_true h
  have hlt:i<b.sites.length:=by omega
  have f1:=pE b.sites[i] by' ps (hok _ (List.getElem_mem hlt)) hb
  have hs:(dx by' ps (b.sites.take (i+1))).map D.i=(dx by' ps (b.sites.take i)).map D.i++[.i (upF by' ps b.sites[i])]:=by unfold dx;rw [List.take_succ_eq_append_getElem hlt,List.map_append,List.map_append];rfl
  have hq:(dx by' ps (b.sites.take i)).length≤1000:=by unfold dx;rw [List.length_map,List.length_take];omega
  refine kgo ?_
  exact ab (i+1) hlt (by omega)
 ·have h:=of_decide_eq_false h
  refine kgo ?_
  rw [List.take_of_length_le (by omega)]
  exact td
theorem nY (xs:List ByteArray) (m:Int) (ys:List ByteArray) (hl:xs.length≤1000) (hy:ys.length≤1000) (hm:0≤m∧m≤1000):FnD Tryz.prog 265 [DS xs,.i m,DS ys] (.row 1 3 ((dz xs m ys).map .i)):=by
 refine ai Tryz.func265 (fun hw W0=>?_)
 refine kgo ?_
 refine eQ (fun i:Nat=>i≤xs.length) (fun i=>xs.length - i) (fun i=>[(0,.sy (.d (DS xs))),(1,.sy (.d (.i m))),(2,.sy (.d (DS ys))),(7,.sy (.k 10009)),(10009,.tk (.row 1 3 ((dz (xs.take i) m ys).map .i))),(8,.sy (.d (.i i)))]) 0 (Nat.zero_le _) (fun i hi=>?_)
 refine kgo ?_
 refine cIf (fun h=>?_) (fun h=>?_)
 ·have h:=of_decide_eq_true h
  have hlt:i<xs.length:=by omega
  have f1:=wC ys xs[i]
  have hr:=mM ys xs[i]
  have hs:(dz (xs.take (i+1)) m ys).map D.i=(dz (xs.take i) m ys).map D.i++[.i (m+jC ys xs[i])]:=by rw [uT m ys i hlt,List.map_append];rfl
  have hq:(dz (xs.take i) m ys).length≤1000:=by unfold dz;rw [List.length_map,List.length_take];omega
  refine kgo ?_
  exact ab (i+1) hlt (by omega)
 ·have h:=of_decide_eq_false h
  refine kgo ?_
  rw [List.take_of_length_le (by omega)]
  exact td
theorem lS (b:Big) (by':Int) (ps ks:List Int) (hb : -1000≤by'∧by'≤1000) (hl:b.nodes.length≤1000) (hll:∀n∈b.nodes,n.links.length≤1000) (hok:∀n∈b.nodes,Dv by' ps n.parent) (hlk:∀n∈b.nodes,∀l∈n.links,0≤l∧l<(ks.length:Int)):FnD Tryz.prog 301 [b.D,.i by',DI ps,DI ks] (.row 3 131 ((dc by' ps ks b.nodes).map Nd.D)):=by
 refine ai Tryz.func301 (fun hw W0=>?_)
 refine kgo ?_
 refine eQ (fun i:Nat=>i≤b.nodes.length) (fun i=>b.nodes.length - i) (fun i=>[(1,.sy (.d (.i by'))),(2,.sy (.d (DI ps))),(3,.sy (.d (DI ks))),(4,.sy (.bx 10004 0)),(10004,.tk (.bx (flat b.D))),(9,.sy (.k 10013)),(10013,.tk (.row 3 131 ((dc by' ps ks (b.nodes.take i)).map Nd.D))),(10,.sy (.d (.i i)))]) 0 (Nat.zero_le _) (fun i hi=>?_)
 refine kgo ?_
 refine cIf (fun h=>?_) (fun h=>?_)
 ·have h:=of_decide_eq_true h
  have hlt:i<b.nodes.length:=by omega
  have hm:=List.getElem_mem hlt
  have hq:(dc by' ps ks (b.nodes.take i)).length≤1000:=by unfold dc;rw [List.length_map,List.length_take];omega
  have hL:=hll _ hm
  have hK:=hlk _ hm
  refine kgo ?_
  refine eQ (fun j:Nat=>j≤(b.nodes[i]).links.length) (fun j=>(b.nodes[i]).links.length - j) (fun j=>[(1,.sy (.d (.i by'))),(2,.sy (.d (DI ps))),(3,.sy (.d (DI ks))),(4,.sy (.bx 10004 0)),(10004,.tk (.bx (flat b.D))),(9,.sy (.k 10013)),(10013,.tk (.row 3 131 ((dc by' ps ks (b.nodes.take i)).map Nd.D))),(10,.sy (.d (.i i))),(11,.sy (.k 10021)),(10021,.tk (.row 1 3 ((ez ks ((b.nodes[i]).links.take j)).map .i))),(12,.sy (.d (.i j)))]) 0 (Nat.zero_le _) (fun j hj=>?_)
  refine kgo ?_
  refine cIf (fun h2=>?_) (fun h2=>?_)
  ·have h2:=of_decide_eq_true h2
   have hjl:j<(b.nodes[i]).links.length:=by omega
   have hk2:=hK _ (List.getElem_mem hjl)
   have hs:(ez ks ((b.nodes[i]).links.take (j+1))).map D.i=(ez ks ((b.nodes[i]).links.take j)).map D.i++[.i (atI ks (b.nodes[i]).links[j])]:=by rw [oQ ks j hjl,List.map_append];rfl
   have hq2:(ez ks ((b.nodes[i]).links.take j)).length≤1000:=by unfold ez;rw [List.length_map,List.length_take];omega
   refine kgo ?_
   exact ab (j+1) hjl (by omega)
  ·have h2:=of_decide_eq_false h2
   rw [show (b.nodes[i]).links.take j=(b.nodes[i]).links from List.take_of_length_le (by omega)]
   have f1:=pE (b.nodes[i]).parent by' ps (hok _ hm) hb
   have hs:(dc by' ps ks (b.nodes.take (i+1))).map Nd.D=(dc by' ps ks (b.nodes.take i)).map Nd.D++[Nd.D ⟨(b.nodes[i]).control,upF by' ps (b.nodes[i]).parent,ez ks (b.nodes[i]).links⟩]:=by rw [uB by' ps ks i hlt,List.map_append];rfl
   repeat (first|(refine ck ?_;first|refine bd ?_|refine cC ?_|refine bo ?_|refine bl ?_|refine aY ?_|refine br ?_|refine bw ?_|refine aK ?_|refine bp ?_)|(refine gv ?_;first|refine cd ?_|refine gg ?_|refine ct ?_|refine cz ?_)|(refine gj ?_;first|refine eV (fun _=>?_)|refine cu ?_|refine cq ?_|refine bT ?_|refine ci ?_|refine cw ?_)|(refine gu ?_;first|refine cK ?_|refine fy ?_|refine cH ?_|refine bY ?_|refine cF ?_|refine cE ?_)|(refine fV ?_;first|refine gq ?_|refine fQ ?_|refine ch ?_|refine cb ?_|refine fZ ?_|refine bf ?_|refine bm ?_)|(refine cm ?_;first|refine be ?_|refine cI ?_)|(refine fY ?_;first|refine cG ?_|refine cA ?_|refine gm ?_)|(refine cj ?_;first|refine cr ?_|refine bj ?_|refine bc ?_|refine bk ?_|refine aX ?_|refine bu ?_)|(refine gr ?_;first|refine cB ?_|refine fS ?_|refine bq ?_)|(refine aW ?_;first|refine aC _ ?_|refine bt ?_|refine aG ?_|refine aE ?_|refine aJ ?_)|(refine gh ?_;first|refine co ?_|refine b7 ?_|refine cy ?_)|(refine gOp ?_;first|refine gx ?_|refine gd ?_|refine bh ?_|refine fX ?_|refine fW ?_|refine cJ ?_|refine aZ ?_|refine cg ?_|refine gw ?_|refine b8 ?_|refine cL ?_|refine bg ?_|refine sFz 64 ?_|refine aH ?_|refine cD ?_|refine sNo ?_)|refine gC ?_|refine fa ?_|refine gG ?_|refine bA ?_|refine cM ?_|refine bP ?_|refine gL ?_|refine gF ?_|refine gA ?_|refine fm ?_|refine cQ ?_|refine bD ?_|refine aB ?_|refine bB ?_|refine cO ?_|refine bN ?_|refine aBlkX ?_|refine cP ?_|refine sFz 64 ?_)
   exact ab (i+1) hlt (by omega)
 ·have h:=of_decide_eq_false h
  refine kgo ?_
  rw [List.take_of_length_le (by omega)]
  exact td
theorem oy (b:Big) (ps:List Int) (hok:∀x∈b.inner,0≤x.link∧x.link<(ps.length:Int)) (hl:b.inner.length≤1000):FnD Tryz.prog 303 [b.D,DI ps] (.row 2 133 ((dA ps b.inner).map Wr.D)):=by
 refine ai Tryz.func303 (fun hw W0=>?_)
 refine kgo ?_
 refine eQ (fun i:Nat=>i≤b.inner.length) (fun i=>b.inner.length - i) (fun i=>[(1,.sy (.d (DI ps))),(2,.sy (.bx 10002 0)),(10002,.tk (.bx (flat b.D))),(5,.sy (.k 10007)),(10007,.tk (.row 2 133 ((dA ps (b.inner.take i)).map Wr.D))),(6,.sy (.d (.i i)))]) 0 (Nat.zero_le _) (fun i hi=>?_)
 refine kgo ?_
 refine cIf (fun h=>?_) (fun h=>?_)
 ·have h:=of_decide_eq_true h
  have hlt:i<b.inner.length:=by omega
  have hk:=hok _ (List.getElem_mem hlt)
  have hb:(dA ps (b.inner.take i)).length≤1000:=by unfold dA;rw [List.length_map,List.length_take];omega
  have hs:(dA ps (b.inner.take (i+1))).map Wr.D=(dA ps (b.inner.take i)).map Wr.D++[Wr.D ⟨(b.inner[i]).name,atI ps (b.inner[i]).link⟩]:=by rw [vt ps i hlt,List.map_append];rfl
  refine kgo ?_
  exact ab (i+1) hlt (by omega)
 ·have h:=of_decide_eq_false h
  refine kgo ?_
  rw [List.take_of_length_le (by omega)]
  exact td
theorem E2 (l:List Int) (hl:l.length≤1000):FnD Tryz.prog 208 [DI l] (.row 1 3 (l.map .i)):=by
 refine ai Tryz.func208 (fun hw W0=>?_)
 refine kgo ?_
 exact td
theorem lG (b:Big) (hl:b.inner.length≤1000):FnD Tryz.prog 181 [b.D] (.d (DS (b.inner.map Wr.name))):=by
 refine ai Tryz.func181 (fun hw W0=>?_)
 refine kgo ?_
 refine eQ (fun i:Nat=>i≤b.inner.length) (fun i=>b.inner.length - i) (fun i=>[(1,.sy (.bx 10001 0)),(10001,.tk (.bx (flat b.D))),(3,.sy (.k 10005)),(10005,.tk (.row 1 9 (((b.inner.take i).map Wr.name).map .s))),(4,.sy (.d (.i i)))]) 0 (Nat.zero_le _) (fun i hi=>?_)
 refine kgo ?_
 refine cIf (fun h=>?_) (fun h=>?_)
 ·have h:=of_decide_eq_true h
  have hlt:i<b.inner.length:=by omega
  have hs:((b.inner.take (i+1)).map Wr.name).map D.s=((b.inner.take i).map Wr.name).map D.s++[.s (b.inner[i]).name]:=by rw [List.take_succ_eq_append_getElem hlt,List.map_append,List.map_append];rfl
  refine kgo ?_
  exact ab (i+1) hlt (by omega)
 ·have h:=of_decide_eq_false h
  refine kgo ?_
  rw [List.take_of_length_le (by omega)]
  exact Hf
theorem sG (xs ys:List ByteArray):FnD Tryz.prog 262 [DS xs,DS ys] (.d (.b (iq xs ys))):=by
 refine ai Tryz.func262 (fun hw W0=>?_)
 have hl:=(wfM hw.1).1
 refine kgo ?_
 refine eQ (fun i:Nat=>i≤xs.length∧(xs.take i).all (fun s=>!ys.any fun x=>x.toList == s.toList)=true) (fun i=>xs.length - i) (fun i=>[(0,.sy (.d (DS xs))),(1,.sy (.d (DS ys))),(5,.sy (.d (.i i)))]) 0 ⟨Nat.zero_le _,rfl⟩ (fun i hi=>?_)
 refine kgo ?_
 refine cIf (fun h=>?_) (fun h=>?_)
 ·have h:=of_decide_eq_true h
  have hlt:i<xs.length:=by omega
  have f1:=wC ys xs[i]
  have hp:=qU ys xs[i]
  refine kgo ?_
  refine cIf (fun h2=>?_) (fun h2=>?_)
  ·refine kgo ?_
   rw [show iq xs ys=false from List.all_eq_false.2 ⟨_,List.getElem_mem hlt,by rw [← hp,h2];simp⟩]
   exact ax
  ·refine kgo ?_
   exact ab (i+1) ⟨hlt,by rw [List.take_succ_eq_append_getElem hlt,List.all_append,hi.2,List.all_cons,← hp,h2];rfl⟩ (by omega)
 ·have h:=of_decide_eq_false h
  refine kgo ?_
  rw [show iq xs ys=true from by rw [← hi.2,List.take_of_length_le (by omega)];rfl]
  exact ax
end Go.Proofs.YtclpbhoekmecjaaGreatDoor
namespace Go.Proofs.YtclpbhoekmecjaaGreatDoor
open Go.RowKit
set_option linter.unusedVariables false
set_option linter.unusedSimpArgs false
theorem yq (sig:List Ctl) (b:Big) (i:Nat) (h:i<b.nodes.length):ey sig b i=(inR (b.nodes[i]).control 0 ((sig.length:Int) - 1) && (dB sig b (b.nodes[i]).parent i && (decide (((b.nodes[i]).links.length:Int)=(tK sig (b.nodes[i]).control).ports) && (b.nodes[i]).links.all (dJ b)))):=by
 unfold ey;rw [List.getElem?_eq_getElem h]
theorem jX {α:Type} (p:α→Bool) (xs:List α) (i:Nat) (h:xs.length≤i) (hp:(xs.take i).all p=true):xs.all p=true:=by rwa [List.take_of_length_le h] at hp
theorem u9 {sig:List Ctl} {b:Big} (h:b.sites.all (fe sig b)=false):ay sig b=false:=by unfold ay;rw [h];simp
theorem uH {sig:List Ctl} {b:Big} (h:b.inner.all (fM b)=false):ay sig b=false:=by unfold ay;rw [h];simp
theorem CV {sig:List Ctl} {b:Big} (a:mJ sig b=true) (c:(List.range b.nodes.length).all (ey sig b)=true) (d:b.sites.all (fe sig b)=true) (e:b.inner.all (fM b)=true):ay sig b=true:=by unfold ay;rw [a,c,d,e];rfl
theorem AD (sig:List Ctl) (b:Big) (p:Int):fe sig b p=dB sig b p b.nodes.length:=rfl
theorem AL (b:Big) (x:Wr):fM b x=dJ b x.link:=rfl
attribute [local irreducible] inR dD dh kX dp dB dJ fe fM tK
set_option maxRecDepth 100000 in
set_option maxHeartbeats 3200000 in
theorem qN (lo hi lo' hi':Nat) (v:Value) (sig:List Ctl) (cs:List Value) (b:Big) (i:Nat) (w:World) (hV:lu lo hi w v sig) (hB:bW lo' hi' w cs b) (hr:inR b.roots 0 4=true) (he:inR b.edges 0 8=true) (ho:b.outer.length≤1000) (hsl:sig.length≤6) (hlt:i<b.nodes.length) (hC:Br sig b i) :
 Calls Tryz.prog 182 #[v,.agg cs.toArray,.int .i64 i] w fun e w'=>e=.returned (.bool (ey sig b i))∧Ext w w':=by
 obtain ⟨a,k,rfl,m1,m2,m3,m4⟩:=id hV
 obtain ⟨v1,v2,v4,v5,rfl,r1,r2,hN,hS,hO,hI⟩:=id hB
 obtain ⟨a1,k1,rfl,g1,g2,g3,g4⟩:=hN
 unfold maxLen at g2 m2
 obtain ⟨W0,hW0,hbx,hx0,hz⟩:=aN w [.int .i64 b.roots,.slice a1 b.nodes.length k1,v2,.int .i64 b.edges,v4,v5] 40
 have p0:=(hbx 0 _ rfl).1
 have p1:=(hbx 1 _ rfl).1
 have p2:=(hbx 2 _ rfl).1
 have p3:=(hbx 3 _ rfl).1
 have p4:=(hbx 4 _ rfl).1
 have p5:=(hbx 5 _ rfl).1
 clear hz hbx
 replace hV:=hV.ext fo.keeps hx0
 replace hB:=bW.keeps _ _ _ _ _ _ (bV.ext hx0) hB
 have HR:=Lib.hid hr
 have HE:=Lib.hid he
 clear hr he
 have HA:=Lib.hid (yq sig b i hlt)
 have HSG:=Lib.hid (i8 sig)
 rcases g4 with g4|⟨b1,o1,rfl,gb1,gb2,g4⟩
 ·rw [g4] at hlt;simp at hlt
 obtain ⟨cs,hl,hnp,hc⟩:=g4 i hlt
 generalize hnd:b.nodes[i]=nd at hnp HA
 obtain ⟨nc,np,nl⟩:=nd
 obtain ⟨nv,rfl,e1,e2,e3⟩:=hnp
 have q0:=hx0.keep (hc 0 _ rfl)
 have q1:=hx0.keep (hc 1 _ rfl)
 have q2:=hx0.keep (hc 2 _ rfl)
 rw [Nat.add_zero] at q0
 obtain ⟨la,lk,rfl,y1,y2,y3,y4⟩:=e3
 dsimp only at *
 unfold maxLen at y2
 clear hc g4 hnd
 unfold I64 at e1
 have hsw:=IntWalk.i64_in ((sig.length:Int) - 1) (by omega)
 have ji0:(0:Int)≤(i:Int):=by omega
 have ji1:(i:Int)<(b.nodes.length:Int):=by omega
 go_enter Tryz.func182,Tryz.ntmps182
 cases hc:inR nc 0 ((sig.length:Int) - 1)
 ·have Hc:=Lib.hid hc
  clear hc
  have HB:=Lib.hid (show ey sig b i=false by rw [HA.out];first|(rw [HK.out];simp [Hc.out];done)|simp [Hc.out])
  go_wp2_with fail
  refine wp_region_held_drew (S:=(fun w'=>dj w' W0.heap.size [.int .i64 nc,.int .i64 np,.slice la nl.length lk]∧Ext W0 w')) (by kernel_rfl) ?_ (fun hHeld=>?_)
  ·(refine ⟨?_,xw⟩;all_goals (intro j u hj;rcases j with _|_|_|_|_|_|_|_|j <;> simp at hj <;> (subst hj;simp)))
  refine tkP 0 ?_ ?_ ?_;rotate_left;focus (intro w;go_simp;try with_reducible rfl)
  try simp only [Act.put,aj]
  refine tkY 1 ?_ ?_ ?_;rotate_left;focus (intro w hSw;(try dsimp only at hSw);obtain ⟨bx0,sx⟩:=hSw;have c0_0:=(bx0 0 _ rfl).1;have c0_1:=(bx0 1 _ rfl).1;have c0_2:=(bx0 2 _ rfl).1;have s_p0:=Ext.keep sx p0;have s_p1:=Ext.keep sx p1;have s_p2:=Ext.keep sx p2;have s_p3:=Ext.keep sx p3;have s_p4:=Ext.keep sx p4;have s_p5:=Ext.keep sx p5;(try have s_s1:=Ext.keep sx s1);go_simp;try with_reducible rfl)
  try simp only [Act.put,aj]
  refine tkP 2 ?_ ?_ ?_;rotate_left;focus (intro w;go_simp;try with_reducible rfl)
  try simp only [Act.put,aj]
  refine tkP 3 ?_ ?_ ?_;rotate_left;focus (intro w;go_simp;try with_reducible rfl)
  try simp only [Act.put,aj]
  refine tkP 4 ?_ ?_ ?_;rotate_left;focus (intro w;go_simp;try with_reducible rfl)
  try simp only [Act.put,aj]
  refine wpAnyH_ready (rs:=[5]) (by kernel_rfl) (by simp) ?_
  refine AllReadyH.cons rfl (fun K hK=>?_) AllReadyH.nil
  (try simp only [aj])
  go_simp
  (go_at_call 86;(refine (bU _ _ _ _).mono ?_);rintro e y ⟨rfl,rfl⟩;rw [Hc.out])
  show K _ _
  refine hK.out _ _ (by exact hHeld) (fun hHeld=>?_)
  clear hK K
  try simp only [Act.put,aj]
  refine tkP 6 ?_ ?_ ?_;rotate_left;focus (intro w;go_simp;try with_reducible rfl)
  try simp only [Act.put,aj]
  refine tkP 7 ?_ ?_ ?_;rotate_left;focus (intro w;go_simp;try with_reducible rfl)
  try simp only [Act.put,aj]
  refine tkN 8 ?_
  try simp only [Act.put,aj]
  refine tkN 9 ?_
  try simp only [Act.put,aj]
  refine tkN 10 ?_
  try simp only [Act.put,aj]
  refine tkN 11 ?_
  try simp only [Act.put,aj]
  refine tkN 12 ?_
  try simp only [Act.put,aj]
  refine tkN 13 ?_
  try simp only [Act.put,aj]
  refine tkN 14 ?_
  try simp only [Act.put,aj]
  refine tkP 15 ?_ ?_ ?_;rotate_left;focus (intro w;go_simp;try with_reducible rfl)
  try simp only [Act.put,aj]
  refine tkP 16 ?_ ?_ ?_;rotate_left;focus (intro w;go_simp;try with_reducible rfl)
  try simp only [Act.put,aj]
  refine tkN 17 ?_
  try simp only [Act.put,aj]
  refine tkN 18 ?_
  try simp only [Act.put,aj]
  refine tkN 19 ?_
  try simp only [Act.put,aj]
  refine tkN 20 ?_
  try simp only [Act.put,aj]
  refine tkN 21 ?_
  try simp only [Act.put,aj]
  refine tkN 22 ?_
  try simp only [Act.put,aj]
  refine tkN 23 ?_
  try simp only [Act.put,aj]
  refine tkN 24 ?_
  try simp only [Act.put,aj]
  refine tkN 25 ?_
  try simp only [Act.put,aj]
  refine tkN 26 ?_
  try simp only [Act.put,aj]
  refine tkP 27 ?_ ?_ ?_;rotate_left;focus (intro w;go_simp;try with_reducible rfl)
  try simp only [Act.put,aj]
  refine wpAnyH_done (by kernel_rfl) ?_ _
  all_goals go_wp2
  all_goals go_ret
  all_goals exact ⟨am HB.out.symm,xw⟩
 have Hc:=Lib.hid hc
 clear hc
 obtain ⟨hc0,hc1⟩:=bL Hc.out;obtain ⟨m,rfl⟩:=Int.eq_ofNat_of_zero_le hc0;have hml:m<sig.length:=(by omega);rcases m4 with m4|⟨b2,o2,rfl,mb1,mb2,m4⟩;(exfalso;rw [m4] at hml;simp at hml);obtain ⟨ds,dl,⟨rfl,d1,d2,d3⟩,hds⟩:=m4 m hml;have s1:=hx0.keep (hds 1 _ rfl);have HK:=Lib.hid (HSG.out m hml);clear hds m4;unfold I64 at d2;have jm0:(0:Int)≤(m:Int):=(by omega);have jm1:(m:Int)<(sig.length:Int):=(by omega)
 cases hu:dB sig b np i
 ·have Hu:=Lib.hid hu
  clear hu
  have HB:=Lib.hid (show ey sig b i=false by rw [HA.out];first|(rw [HK.out];simp [Hc.out,Hu.out];done)|simp [Hc.out,Hu.out])
  go_wp2_with fail
  refine wp_region_held_drew (S:=(fun w'=>dj w' W0.heap.size [.int .i64 (m:Int),.int .i64 np,.slice la nl.length lk]∧Ext W0 w')) (by kernel_rfl) ?_ (fun hHeld=>?_)
  ·(refine ⟨?_,xw⟩;all_goals (intro j u hj;rcases j with _|_|_|_|_|_|_|_|j <;> simp at hj <;> (subst hj;simp)))
  refine tkP 0 ?_ ?_ ?_;rotate_left;focus (intro w;go_simp;try with_reducible rfl)
  try simp only [Act.put,aj]
  refine tkY 1 ?_ ?_ ?_;rotate_left;focus (intro w hSw;(try dsimp only at hSw);obtain ⟨bx0,sx⟩:=hSw;have c0_0:=(bx0 0 _ rfl).1;have c0_1:=(bx0 1 _ rfl).1;have c0_2:=(bx0 2 _ rfl).1;have s_p0:=Ext.keep sx p0;have s_p1:=Ext.keep sx p1;have s_p2:=Ext.keep sx p2;have s_p3:=Ext.keep sx p3;have s_p4:=Ext.keep sx p4;have s_p5:=Ext.keep sx p5;(try have s_s1:=Ext.keep sx s1);go_simp;try with_reducible rfl)
  try simp only [Act.put,aj]
  refine tkP 2 ?_ ?_ ?_;rotate_left;focus (intro w;go_simp;try with_reducible rfl)
  try simp only [Act.put,aj]
  refine tkP 3 ?_ ?_ ?_;rotate_left;focus (intro w;go_simp;try with_reducible rfl)
  try simp only [Act.put,aj]
  refine tkP 4 ?_ ?_ ?_;rotate_left;focus (intro w;go_simp;try with_reducible rfl)
  try simp only [Act.put,aj]
  refine wpAnyH_ready (rs:=[5]) (by kernel_rfl) (by simp) ?_
  refine AllReadyH.cons rfl (fun K hK=>?_) AllReadyH.nil
  (try simp only [aj])
  go_simp
  (go_at_call 86;(refine (bU _ _ _ _).mono ?_);rintro e y ⟨rfl,rfl⟩;rw [Hc.out])
  show K _ _
  refine hK.out _ _ (by exact hHeld) (fun hHeld=>?_)
  clear hK K
  try simp only [Act.put,aj]
  refine tkP 6 ?_ ?_ ?_;rotate_left;focus (intro w;go_simp;try with_reducible rfl)
  try simp only [Act.put,aj]
  refine tkP 7 ?_ ?_ ?_;rotate_left;focus (intro w;go_simp;try with_reducible rfl)
  try simp only [Act.put,aj]
  refine tkP 8 ?_ ?_ ?_;rotate_left;focus (intro w;go_simp;try with_reducible rfl)
  try simp only [Act.put,aj]
  refine tkY 9 ?_ ?_ ?_;rotate_left;focus (intro w hSw;(try dsimp only at hSw);obtain ⟨bx0,sx⟩:=hSw;have c0_0:=(bx0 0 _ rfl).1;have c0_1:=(bx0 1 _ rfl).1;have c0_2:=(bx0 2 _ rfl).1;have s_p0:=Ext.keep sx p0;have s_p1:=Ext.keep sx p1;have s_p2:=Ext.keep sx p2;have s_p3:=Ext.keep sx p3;have s_p4:=Ext.keep sx p4;have s_p5:=Ext.keep sx p5;(try have s_s1:=Ext.keep sx s1);go_simp;try with_reducible rfl)
  try simp only [Act.put,aj]
  refine tkP 10 ?_ ?_ ?_;rotate_left;focus (intro w;go_simp;try with_reducible rfl)
  try simp only [Act.put,aj]
  refine tkY 11 ?_ ?_ ?_;rotate_left;focus (intro w hSw;(try dsimp only at hSw);obtain ⟨bx0,sx⟩:=hSw;have c0_0:=(bx0 0 _ rfl).1;have c0_1:=(bx0 1 _ rfl).1;have c0_2:=(bx0 2 _ rfl).1;have s_p0:=Ext.keep sx p0;have s_p1:=Ext.keep sx p1;have s_p2:=Ext.keep sx p2;have s_p3:=Ext.keep sx p3;have s_p4:=Ext.keep sx p4;have s_p5:=Ext.keep sx p5;(try have s_s1:=Ext.keep sx s1);go_simp;try with_reducible rfl)
  try simp only [Act.put,aj]
  refine tkP 12 ?_ ?_ ?_;rotate_left;focus (intro w;go_simp;try with_reducible rfl)
  try simp only [Act.put,aj]
  refine wpAnyH_ready (rs:=[13]) (by kernel_rfl) (by simp) ?_
  refine AllReadyH.cons rfl (fun K hK=>?_) AllReadyH.nil
  (try simp only [aj])
  go_simp
  (have hSw:=hHeld;(try dsimp only at hSw);obtain ⟨bx0,sx⟩:=hSw;have c0_0:=(bx0 0 _ rfl).1;have c0_1:=(bx0 1 _ rfl).1;have c0_2:=(bx0 2 _ rfl).1;have s_p0:=Ext.keep sx p0;have s_p1:=Ext.keep sx p1;have s_p2:=Ext.keep sx p2;have s_p3:=Ext.keep sx p3;have s_p4:=Ext.keep sx p4;have s_p5:=Ext.keep sx p5;(try have s_s1:=Ext.keep sx s1);have s_hV:=hV.ext fo.keeps sx;have s_hB:=bW.keeps _ _ _ _ _ _ (bV.ext sx) hB;go_at_call 183;(refine (fF lo hi lo' hi' _ sig _ b _ _ _ s_hV s_hB e2 HR.out (by omega) hC).mono ?_);rintro e y ⟨rfl,hb⟩;rw [Hu.out])
  show K _ _
  refine hK.out _ _ (by (have hh:=hHeld;(try dsimp only at hh);exact ⟨hh.1.ext hb,hh.2.trans hb⟩)) (fun hHeld=>?_)
  clear hK K
  try simp only [Act.put,aj]
  refine tkP 14 ?_ ?_ ?_;rotate_left;focus (intro w;go_simp;try with_reducible rfl)
  try simp only [Act.put,aj]
  refine tkP 15 ?_ ?_ ?_;rotate_left;focus (intro w;go_simp;try with_reducible rfl)
  try simp only [Act.put,aj]
  refine tkP 16 ?_ ?_ ?_;rotate_left;focus (intro w;go_simp;try with_reducible rfl)
  try simp only [Act.put,aj]
  refine tkN 17 ?_
  try simp only [Act.put,aj]
  refine tkN 18 ?_
  try simp only [Act.put,aj]
  refine tkN 19 ?_
  try simp only [Act.put,aj]
  refine tkN 20 ?_
  try simp only [Act.put,aj]
  refine tkN 21 ?_
  try simp only [Act.put,aj]
  refine tkN 22 ?_
  try simp only [Act.put,aj]
  refine tkN 23 ?_
  try simp only [Act.put,aj]
  refine tkN 24 ?_
  try simp only [Act.put,aj]
  refine tkN 25 ?_
  try simp only [Act.put,aj]
  refine tkN 26 ?_
  try simp only [Act.put,aj]
  refine tkP 27 ?_ ?_ ?_;rotate_left;focus (intro w;go_simp;try with_reducible rfl)
  try simp only [Act.put,aj]
  refine wpAnyH_done (by kernel_rfl) ?_ _
  all_goals go_wp2
  all_goals go_ret
  all_goals exact ⟨am HB.out.symm,xw⟩
 have Hu:=Lib.hid hu
 clear hu
 by_cases hl:((nl.length:Int))=((sig[m]).ports)
 rotate_left
 ·have el:(((nl.length:Int)) != ((sig[m]).ports))=true:=bne_iff_ne.2 hl
  have Hl:=Lib.hid hl
  clear hl
  have HB:=Lib.hid (show ey sig b i=false by rw [HA.out];first|(rw [HK.out];simp [Hc.out,Hu.out,Hl.out];done)|simp [Hc.out,Hu.out,Hl.out])
  go_wp2_with fail
  refine wp_region_held_drew (S:=(fun w'=>dj w' W0.heap.size [.int .i64 (m:Int),.int .i64 np,.slice la nl.length lk]∧Ext W0 w')) (by kernel_rfl) ?_ (fun hHeld=>?_)
  ·(refine ⟨?_,xw⟩;all_goals (intro j u hj;rcases j with _|_|_|_|_|_|_|_|j <;> simp at hj <;> (subst hj;simp)))
  refine tkP 0 ?_ ?_ ?_;rotate_left;focus (intro w;go_simp;try with_reducible rfl)
  try simp only [Act.put,aj]
  refine tkY 1 ?_ ?_ ?_;rotate_left;focus (intro w hSw;(try dsimp only at hSw);obtain ⟨bx0,sx⟩:=hSw;have c0_0:=(bx0 0 _ rfl).1;have c0_1:=(bx0 1 _ rfl).1;have c0_2:=(bx0 2 _ rfl).1;have s_p0:=Ext.keep sx p0;have s_p1:=Ext.keep sx p1;have s_p2:=Ext.keep sx p2;have s_p3:=Ext.keep sx p3;have s_p4:=Ext.keep sx p4;have s_p5:=Ext.keep sx p5;(try have s_s1:=Ext.keep sx s1);go_simp;try with_reducible rfl)
  try simp only [Act.put,aj]
  refine tkP 2 ?_ ?_ ?_;rotate_left;focus (intro w;go_simp;try with_reducible rfl)
  try simp only [Act.put,aj]
  refine tkP 3 ?_ ?_ ?_;rotate_left;focus (intro w;go_simp;try with_reducible rfl)
  try simp only [Act.put,aj]
  refine tkP 4 ?_ ?_ ?_;rotate_left;focus (intro w;go_simp;try with_reducible rfl)
  try simp only [Act.put,aj]
  refine wpAnyH_ready (rs:=[5]) (by kernel_rfl) (by simp) ?_
  refine AllReadyH.cons rfl (fun K hK=>?_) AllReadyH.nil
  (try simp only [aj])
  go_simp
  (go_at_call 86;(refine (bU _ _ _ _).mono ?_);rintro e y ⟨rfl,rfl⟩;rw [Hc.out])
  show K _ _
  refine hK.out _ _ (by exact hHeld) (fun hHeld=>?_)
  clear hK K
  try simp only [Act.put,aj]
  refine tkP 6 ?_ ?_ ?_;rotate_left;focus (intro w;go_simp;try with_reducible rfl)
  try simp only [Act.put,aj]
  refine tkP 7 ?_ ?_ ?_;rotate_left;focus (intro w;go_simp;try with_reducible rfl)
  try simp only [Act.put,aj]
  refine tkP 8 ?_ ?_ ?_;rotate_left;focus (intro w;go_simp;try with_reducible rfl)
  try simp only [Act.put,aj]
  refine tkY 9 ?_ ?_ ?_;rotate_left;focus (intro w hSw;(try dsimp only at hSw);obtain ⟨bx0,sx⟩:=hSw;have c0_0:=(bx0 0 _ rfl).1;have c0_1:=(bx0 1 _ rfl).1;have c0_2:=(bx0 2 _ rfl).1;have s_p0:=Ext.keep sx p0;have s_p1:=Ext.keep sx p1;have s_p2:=Ext.keep sx p2;have s_p3:=Ext.keep sx p3;have s_p4:=Ext.keep sx p4;have s_p5:=Ext.keep sx p5;(try have s_s1:=Ext.keep sx s1);go_simp;try with_reducible rfl)
  try simp only [Act.put,aj]
  refine tkP 10 ?_ ?_ ?_;rotate_left;focus (intro w;go_simp;try with_reducible rfl)
  try simp only [Act.put,aj]
  refine tkY 11 ?_ ?_ ?_;rotate_left;focus (intro w hSw;(try dsimp only at hSw);obtain ⟨bx0,sx⟩:=hSw;have c0_0:=(bx0 0 _ rfl).1;have c0_1:=(bx0 1 _ rfl).1;have c0_2:=(bx0 2 _ rfl).1;have s_p0:=Ext.keep sx p0;have s_p1:=Ext.keep sx p1;have s_p2:=Ext.keep sx p2;have s_p3:=Ext.keep sx p3;have s_p4:=Ext.keep sx p4;have s_p5:=Ext.keep sx p5;(try have s_s1:=Ext.keep sx s1);go_simp;try with_reducible rfl)
  try simp only [Act.put,aj]
  refine tkP 12 ?_ ?_ ?_;rotate_left;focus (intro w;go_simp;try with_reducible rfl)
  try simp only [Act.put,aj]
  refine wpAnyH_ready (rs:=[13]) (by kernel_rfl) (by simp) ?_
  refine AllReadyH.cons rfl (fun K hK=>?_) AllReadyH.nil
  (try simp only [aj])
  go_simp
  (have hSw:=hHeld;(try dsimp only at hSw);obtain ⟨bx0,sx⟩:=hSw;have c0_0:=(bx0 0 _ rfl).1;have c0_1:=(bx0 1 _ rfl).1;have c0_2:=(bx0 2 _ rfl).1;have s_p0:=Ext.keep sx p0;have s_p1:=Ext.keep sx p1;have s_p2:=Ext.keep sx p2;have s_p3:=Ext.keep sx p3;have s_p4:=Ext.keep sx p4;have s_p5:=Ext.keep sx p5;(try have s_s1:=Ext.keep sx s1);have s_hV:=hV.ext fo.keeps sx;have s_hB:=bW.keeps _ _ _ _ _ _ (bV.ext sx) hB;go_at_call 183;(refine (fF lo hi lo' hi' _ sig _ b _ _ _ s_hV s_hB e2 HR.out (by omega) hC).mono ?_);rintro e y ⟨rfl,hb⟩;rw [Hu.out])
  show K _ _
  refine hK.out _ _ (by (have hh:=hHeld;(try dsimp only at hh);exact ⟨hh.1.ext hb,hh.2.trans hb⟩)) (fun hHeld=>?_)
  clear hK K
  try simp only [Act.put,aj]
  refine tkP 14 ?_ ?_ ?_;rotate_left;focus (intro w;go_simp;try with_reducible rfl)
  try simp only [Act.put,aj]
  refine tkP 15 ?_ ?_ ?_;rotate_left;focus (intro w;go_simp;try with_reducible rfl)
  try simp only [Act.put,aj]
  refine tkP 16 ?_ ?_ ?_;rotate_left;focus (intro w;go_simp;try with_reducible rfl)
  try simp only [Act.put,aj]
  refine tkP 17 ?_ ?_ ?_;rotate_left;focus (intro w;go_simp;try with_reducible rfl)
  try simp only [Act.put,aj]
  refine tkY 18 ?_ ?_ ?_;rotate_left;focus (intro w hSw;(try dsimp only at hSw);obtain ⟨bx0,sx⟩:=hSw;have c0_0:=(bx0 0 _ rfl).1;have c0_1:=(bx0 1 _ rfl).1;have c0_2:=(bx0 2 _ rfl).1;have s_p0:=Ext.keep sx p0;have s_p1:=Ext.keep sx p1;have s_p2:=Ext.keep sx p2;have s_p3:=Ext.keep sx p3;have s_p4:=Ext.keep sx p4;have s_p5:=Ext.keep sx p5;(try have s_s1:=Ext.keep sx s1);go_simp;try with_reducible rfl)
  try simp only [Act.put,aj]
  refine tkP 19 ?_ ?_ ?_;rotate_left;focus (intro w;go_simp;try with_reducible rfl)
  try simp only [Act.put,aj]
  refine tkP 20 ?_ ?_ ?_;rotate_left;focus (intro w;go_simp;try with_reducible rfl)
  try simp only [Act.put,aj]
  refine tkP 21 ?_ ?_ ?_;rotate_left;focus (intro w;go_simp;try with_reducible rfl)
  try simp only [Act.put,aj]
  refine tkY 22 ?_ ?_ ?_;rotate_left;focus (intro w hSw;(try dsimp only at hSw);obtain ⟨bx0,sx⟩:=hSw;have c0_0:=(bx0 0 _ rfl).1;have c0_1:=(bx0 1 _ rfl).1;have c0_2:=(bx0 2 _ rfl).1;have s_p0:=Ext.keep sx p0;have s_p1:=Ext.keep sx p1;have s_p2:=Ext.keep sx p2;have s_p3:=Ext.keep sx p3;have s_p4:=Ext.keep sx p4;have s_p5:=Ext.keep sx p5;(try have s_s1:=Ext.keep sx s1);go_simp;try with_reducible rfl)
  try simp only [Act.put,aj]
  refine tkP 23 ?_ ?_ ?_;rotate_left;focus (intro w;go_simp;try with_reducible rfl)
  try simp only [Act.put,aj]
  refine tkP 24 ?_ ?_ ?_;rotate_left;focus (intro w;go_simp;try with_reducible rfl)
  try simp only [Act.put,aj]
  refine tkY 25 ?_ ?_ ?_;rotate_left;focus (intro w hSw;(try dsimp only at hSw);obtain ⟨bx0,sx⟩:=hSw;have c0_0:=(bx0 0 _ rfl).1;have c0_1:=(bx0 1 _ rfl).1;have c0_2:=(bx0 2 _ rfl).1;have s_p0:=Ext.keep sx p0;have s_p1:=Ext.keep sx p1;have s_p2:=Ext.keep sx p2;have s_p3:=Ext.keep sx p3;have s_p4:=Ext.keep sx p4;have s_p5:=Ext.keep sx p5;(try have s_s1:=Ext.keep sx s1);go_simp;try with_reducible rfl)
  try simp only [Act.put,aj]
  refine tkP 26 ?_ ?_ ?_;rotate_left;focus (intro w;go_simp;try with_reducible rfl)
  try simp only [Act.put,aj]
  refine tkP 27 ?_ ?_ ?_;rotate_left;focus (intro w;go_simp;try with_reducible rfl)
  try simp only [Act.put,aj]
  refine wpAnyH_done (by kernel_rfl) ?_ _
  all_goals go_wp2
  all_goals go_ret
  all_goals exact ⟨am HB.out.symm,xw⟩
 have el:(((nl.length:Int)) != ((sig[m]).ports))=false:=bne_eq_false_iff_eq.2 hl
 have Hl:=Lib.hid hl
 clear hl
 go_wp2_with fail
 refine wp_region_held_drew (S:=(fun w'=>dj w' W0.heap.size [.int .i64 (m:Int),.int .i64 np,.slice la nl.length lk]∧Ext W0 w')) (by kernel_rfl) ?_ (fun hHeld=>?_)
 ·(refine ⟨?_,xw⟩;all_goals (intro j u hj;rcases j with _|_|_|_|_|_|_|_|j <;> simp at hj <;> (subst hj;simp)))
 refine tkP 0 ?_ ?_ ?_;rotate_left;focus (intro w;go_simp;try with_reducible rfl)
 try simp only [Act.put,aj]
 refine tkY 1 ?_ ?_ ?_;rotate_left;focus (intro w hSw;(try dsimp only at hSw);obtain ⟨bx0,sx⟩:=hSw;have c0_0:=(bx0 0 _ rfl).1;have c0_1:=(bx0 1 _ rfl).1;have c0_2:=(bx0 2 _ rfl).1;have s_p0:=Ext.keep sx p0;have s_p1:=Ext.keep sx p1;have s_p2:=Ext.keep sx p2;have s_p3:=Ext.keep sx p3;have s_p4:=Ext.keep sx p4;have s_p5:=Ext.keep sx p5;(try have s_s1:=Ext.keep sx s1);go_simp;try with_reducible rfl)
 try simp only [Act.put,aj]
 refine tkP 2 ?_ ?_ ?_;rotate_left;focus (intro w;go_simp;try with_reducible rfl)
 try simp only [Act.put,aj]
 refine tkP 3 ?_ ?_ ?_;rotate_left;focus (intro w;go_simp;try with_reducible rfl)
 try simp only [Act.put,aj]
 refine tkP 4 ?_ ?_ ?_;rotate_left;focus (intro w;go_simp;try with_reducible rfl)
 try simp only [Act.put,aj]
 refine wpAnyH_ready (rs:=[5]) (by kernel_rfl) (by simp) ?_
 refine AllReadyH.cons rfl (fun K hK=>?_) AllReadyH.nil
 (try simp only [aj])
 go_simp
 (go_at_call 86;(refine (bU _ _ _ _).mono ?_);rintro e y ⟨rfl,rfl⟩;rw [Hc.out])
 show K _ _
 refine hK.out _ _ (by exact hHeld) (fun hHeld=>?_)
 clear hK K
 try simp only [Act.put,aj]
 refine tkP 6 ?_ ?_ ?_;rotate_left;focus (intro w;go_simp;try with_reducible rfl)
 try simp only [Act.put,aj]
 refine tkP 7 ?_ ?_ ?_;rotate_left;focus (intro w;go_simp;try with_reducible rfl)
 try simp only [Act.put,aj]
 refine tkP 8 ?_ ?_ ?_;rotate_left;focus (intro w;go_simp;try with_reducible rfl)
 try simp only [Act.put,aj]
 refine tkY 9 ?_ ?_ ?_;rotate_left;focus (intro w hSw;(try dsimp only at hSw);obtain ⟨bx0,sx⟩:=hSw;have c0_0:=(bx0 0 _ rfl).1;have c0_1:=(bx0 1 _ rfl).1;have c0_2:=(bx0 2 _ rfl).1;have s_p0:=Ext.keep sx p0;have s_p1:=Ext.keep sx p1;have s_p2:=Ext.keep sx p2;have s_p3:=Ext.keep sx p3;have s_p4:=Ext.keep sx p4;have s_p5:=Ext.keep sx p5;(try have s_s1:=Ext.keep sx s1);go_simp;try with_reducible rfl)
 try simp only [Act.put,aj]
 refine tkP 10 ?_ ?_ ?_;rotate_left;focus (intro w;go_simp;try with_reducible rfl)
 try simp only [Act.put,aj]
 refine tkY 11 ?_ ?_ ?_;rotate_left;focus (intro w hSw;(try dsimp only at hSw);obtain ⟨bx0,sx⟩:=hSw;have c0_0:=(bx0 0 _ rfl).1;have c0_1:=(bx0 1 _ rfl).1;have c0_2:=(bx0 2 _ rfl).1;have s_p0:=Ext.keep sx p0;have s_p1:=Ext.keep sx p1;have s_p2:=Ext.keep sx p2;have s_p3:=Ext.keep sx p3;have s_p4:=Ext.keep sx p4;have s_p5:=Ext.keep sx p5;(try have s_s1:=Ext.keep sx s1);go_simp;try with_reducible rfl)
 try simp only [Act.put,aj]
 refine tkP 12 ?_ ?_ ?_;rotate_left;focus (intro w;go_simp;try with_reducible rfl)
 try simp only [Act.put,aj]
 refine wpAnyH_ready (rs:=[13]) (by kernel_rfl) (by simp) ?_
 refine AllReadyH.cons rfl (fun K hK=>?_) AllReadyH.nil
 (try simp only [aj])
 go_simp
 (have hSw:=hHeld;(try dsimp only at hSw);obtain ⟨bx0,sx⟩:=hSw;have c0_0:=(bx0 0 _ rfl).1;have c0_1:=(bx0 1 _ rfl).1;have c0_2:=(bx0 2 _ rfl).1;have s_p0:=Ext.keep sx p0;have s_p1:=Ext.keep sx p1;have s_p2:=Ext.keep sx p2;have s_p3:=Ext.keep sx p3;have s_p4:=Ext.keep sx p4;have s_p5:=Ext.keep sx p5;(try have s_s1:=Ext.keep sx s1);have s_hV:=hV.ext fo.keeps sx;have s_hB:=bW.keeps _ _ _ _ _ _ (bV.ext sx) hB;go_at_call 183;(refine (fF lo hi lo' hi' _ sig _ b _ _ _ s_hV s_hB e2 HR.out (by omega) hC).mono ?_);rintro e y ⟨rfl,hb⟩;rw [Hu.out])
 show K _ _
 refine hK.out _ _ (by (have hh:=hHeld;(try dsimp only at hh);exact ⟨hh.1.ext hb,hh.2.trans hb⟩)) (fun hHeld=>?_)
 clear hK K
 try simp only [Act.put,aj]
 refine tkP 14 ?_ ?_ ?_;rotate_left;focus (intro w;go_simp;try with_reducible rfl)
 try simp only [Act.put,aj]
 refine tkP 15 ?_ ?_ ?_;rotate_left;focus (intro w;go_simp;try with_reducible rfl)
 try simp only [Act.put,aj]
 refine tkP 16 ?_ ?_ ?_;rotate_left;focus (intro w;go_simp;try with_reducible rfl)
 try simp only [Act.put,aj]
 refine tkP 17 ?_ ?_ ?_;rotate_left;focus (intro w;go_simp;try with_reducible rfl)
 try simp only [Act.put,aj]
 refine tkY 18 ?_ ?_ ?_;rotate_left;focus (intro w hSw;(try dsimp only at hSw);obtain ⟨bx0,sx⟩:=hSw;have c0_0:=(bx0 0 _ rfl).1;have c0_1:=(bx0 1 _ rfl).1;have c0_2:=(bx0 2 _ rfl).1;have s_p0:=Ext.keep sx p0;have s_p1:=Ext.keep sx p1;have s_p2:=Ext.keep sx p2;have s_p3:=Ext.keep sx p3;have s_p4:=Ext.keep sx p4;have s_p5:=Ext.keep sx p5;(try have s_s1:=Ext.keep sx s1);go_simp;try with_reducible rfl)
 try simp only [Act.put,aj]
 refine tkP 19 ?_ ?_ ?_;rotate_left;focus (intro w;go_simp;try with_reducible rfl)
 try simp only [Act.put,aj]
 refine tkP 20 ?_ ?_ ?_;rotate_left;focus (intro w;go_simp;try with_reducible rfl)
 try simp only [Act.put,aj]
 refine tkP 21 ?_ ?_ ?_;rotate_left;focus (intro w;go_simp;try with_reducible rfl)
 try simp only [Act.put,aj]
 refine tkY 22 ?_ ?_ ?_;rotate_left;focus (intro w hSw;(try dsimp only at hSw);obtain ⟨bx0,sx⟩:=hSw;have c0_0:=(bx0 0 _ rfl).1;have c0_1:=(bx0 1 _ rfl).1;have c0_2:=(bx0 2 _ rfl).1;have s_p0:=Ext.keep sx p0;have s_p1:=Ext.keep sx p1;have s_p2:=Ext.keep sx p2;have s_p3:=Ext.keep sx p3;have s_p4:=Ext.keep sx p4;have s_p5:=Ext.keep sx p5;(try have s_s1:=Ext.keep sx s1);go_simp;try with_reducible rfl)
 try simp only [Act.put,aj]
 refine tkP 23 ?_ ?_ ?_;rotate_left;focus (intro w;go_simp;try with_reducible rfl)
 try simp only [Act.put,aj]
 refine tkP 24 ?_ ?_ ?_;rotate_left;focus (intro w;go_simp;try with_reducible rfl)
 try simp only [Act.put,aj]
 refine tkY 25 ?_ ?_ ?_;rotate_left;focus (intro w hSw;(try dsimp only at hSw);obtain ⟨bx0,sx⟩:=hSw;have c0_0:=(bx0 0 _ rfl).1;have c0_1:=(bx0 1 _ rfl).1;have c0_2:=(bx0 2 _ rfl).1;have s_p0:=Ext.keep sx p0;have s_p1:=Ext.keep sx p1;have s_p2:=Ext.keep sx p2;have s_p3:=Ext.keep sx p3;have s_p4:=Ext.keep sx p4;have s_p5:=Ext.keep sx p5;(try have s_s1:=Ext.keep sx s1);go_simp;try with_reducible rfl)
 try simp only [Act.put,aj]
 refine tkP 26 ?_ ?_ ?_;rotate_left;focus (intro w;go_simp;try with_reducible rfl)
 try simp only [Act.put,aj]
 refine tkP 27 ?_ ?_ ?_;rotate_left;focus (intro w;go_simp;try with_reducible rfl)
 try simp only [Act.put,aj]
 refine wpAnyH_done (by kernel_rfl) ?_ _
 all_goals go_wp2
 obtain ⟨bxn,hY⟩:=hHeld
 go_loopw [8] (fun c wr=>∃j:Nat,c=.int .i64 j∧j≤nl.length∧(nl.take j).all (dJ b)=true∧dj wr W0.heap.size [.int .i64 (m:Int),.int .i64 np,.slice la nl.length lk]∧Ext W0 wr) (fun c _=>nl.length - (intOf c).toNat)
 case atStart=>exact ⟨0,rfl,Nat.zero_le _,rfl,bxn,hY⟩
 case round=>
  obtain ⟨j,rfl,hj0,hok,bxn,hX0⟩:=hrel
  have HOK:=Lib.hid hok
  clear hok
  have hX:Ext w wr:=hx0.trans hX0
  have z2:=(bxn 2 _ rfl).1
  replace p0:=hX0.keep p0
  replace p1:=hX0.keep p1
  replace p2:=hX0.keep p2
  replace p3:=hX0.keep p3
  replace p4:=hX0.keep p4
  replace p5:=hX0.keep p5
  replace hB:=bW.keeps _ _ _ _ _ _ (bV.ext hX0) hB
  by_cases hjl:j<nl.length
  ·rcases y4 with y4|⟨b3,o3,rfl,yb1,yb2,y4⟩
   ·rw [y4] at hjl;simp at hjl
   obtain ⟨es,el,⟨rfl,f1⟩,hes⟩:=y4 j hjl
   have t0:=hX.keep (hes 0 _ rfl)
   rw [Nat.mul_one,Nat.add_zero] at t0
   clear hes y4
   have HT:=Lib.hid (fh (dJ b) nl j hjl)
   have HBD:=Lib.hid (qB (dJ b) nl j hjl)
   have jj0:(0:Int)≤(j:Int):=by omega
   have jj1:(j:Int)<(nl.length:Int):=by omega
   cases hk:dJ b nl[j]
   have Hk:=Lib.hid hk;clear hk
   have HB:=Lib.hid (show ey sig b i=false by rw [HA.out,HBD.out Hk.out];simp)
   have isF:=trivial
   rotate_left
   have Hk:=Lib.hid hk;clear hk
   have isP:=trivial
   all_goals go_wp2_with fail
   all_goals
    refine wp_region_held_drew (S:=(fun w'=>Ext wr w')) (by kernel_rfl) ?_ (fun hHeld=>?_)
    ·refine xw
    refine tkY 0 ?_ ?_ ?_;rotate_left;focus (intro w hSw;(try dsimp only at hSw);have sx:=hSw;have s_p0:=Ext.keep sx p0;have s_p1:=Ext.keep sx p1;have s_p2:=Ext.keep sx p2;have s_p3:=Ext.keep sx p3;have s_p4:=Ext.keep sx p4;have s_p5:=Ext.keep sx p5;have s_z2:=Ext.keep sx z2;have s_t0:=Ext.keep sx t0;go_simp;try with_reducible rfl)
    try simp only [Act.put,aj]
    refine tkP 1 ?_ ?_ ?_;rotate_left;focus (intro w;go_simp;try with_reducible rfl)
    try simp only [Act.put,aj]
    refine tkY 2 ?_ ?_ ?_;rotate_left;focus (intro w hSw;(try dsimp only at hSw);have sx:=hSw;have s_p0:=Ext.keep sx p0;have s_p1:=Ext.keep sx p1;have s_p2:=Ext.keep sx p2;have s_p3:=Ext.keep sx p3;have s_p4:=Ext.keep sx p4;have s_p5:=Ext.keep sx p5;have s_z2:=Ext.keep sx z2;have s_t0:=Ext.keep sx t0;go_simp;try with_reducible rfl)
    try simp only [Act.put,aj]
    refine tkP 3 ?_ ?_ ?_;rotate_left;focus (intro w;go_simp;try with_reducible rfl)
    try simp only [Act.put,aj]
    refine tkP 4 ?_ ?_ ?_;rotate_left;focus (intro w;go_simp;try with_reducible rfl)
    try simp only [Act.put,aj]
    refine tkY 5 ?_ ?_ ?_;rotate_left;focus (intro w hSw;(try dsimp only at hSw);have sx:=hSw;have s_p0:=Ext.keep sx p0;have s_p1:=Ext.keep sx p1;have s_p2:=Ext.keep sx p2;have s_p3:=Ext.keep sx p3;have s_p4:=Ext.keep sx p4;have s_p5:=Ext.keep sx p5;have s_z2:=Ext.keep sx z2;have s_t0:=Ext.keep sx t0;go_simp;try with_reducible rfl)
    try simp only [Act.put,aj]
    refine wpAnyH_ready (rs:=[6]) (by kernel_rfl) (by simp) ?_
    refine AllReadyH.cons rfl (fun K hK=>?_) AllReadyH.nil
    (try simp only [aj])
    go_simp
    (have hSw:=hHeld;(try dsimp only at hSw);have sx:=hSw;have s_p0:=Ext.keep sx p0;have s_p1:=Ext.keep sx p1;have s_p2:=Ext.keep sx p2;have s_p3:=Ext.keep sx p3;have s_p4:=Ext.keep sx p4;have s_p5:=Ext.keep sx p5;have s_z2:=Ext.keep sx z2;have s_t0:=Ext.keep sx t0;have s_hB:=bW.keeps _ _ _ _ _ _ (bV.ext sx) hB;go_at_call 184;(refine (lH lo' hi' _ b _ _ s_hB HE.out ho).mono ?_);rintro e y ⟨rfl,hb⟩;rw [Hk.out])
    show K _ _
    refine hK.out _ _ (by (have hh:=hHeld;(try dsimp only at hh);exact hh.trans hb)) (fun hHeld=>?_)
    clear hK K
    try simp only [Act.put,aj]
    refine tkP 7 ?_ ?_ ?_;rotate_left;focus (intro w;go_simp;try with_reducible rfl)
    try simp only [Act.put,aj]
    refine wpAnyH_done (by kernel_rfl) ?_ _
   all_goals go_wp2
   all_goals first|(have:=isF;all_goals go_ret;all_goals exact ⟨am HB.out.symm,xw⟩)|(have:=isP;all_goals go_roundw;(case rel=>exact ⟨j+1,rfl,by omega,by rw [HT.out,HOK.out,Hk.out];rfl,bxn.ext (by assumption),xw⟩);all_goals (simp only [intOf];omega))
  ·have HAL:=Lib.hid (jX (dJ b) nl j (by omega) HOK.out)
   go_wp2
   go_ret
   exact ⟨am (by rw [HA.out,HAL.out,HK.out];simp [Hc.out,Hu.out,Hl.out]),xw⟩
end Go.Proofs.YtclpbhoekmecjaaGreatDoor
namespace Go.Proofs.YtclpbhoekmecjaaGreatDoor
open Go.RowKit
set_option linter.unusedVariables false
set_option linter.unusedSimpArgs false
def fq (sig:List Ctl) (b:Big):Bool:=ay sig b && (decide (b.sites.length=0) && decide (b.inner.length=0))
attribute [local irreducible] inR dD dh kX dp dB dJ fe fM tK ey
set_option maxRecDepth 100000 in
set_option maxHeartbeats 6400000 in
theorem qu (lo hi lo' hi':Nat) (v:Value) (sig:List Ctl) (cs:List Value) (b:Big) (w:World) (hV:lu lo hi w v sig) (hB:bW lo' hi' w cs b) (hlen:b.inner.length≤1048576) :
 Calls Tryz.prog 123 #[v,.agg cs.toArray] w fun e w'=>e=.returned (.bool (ay sig b))∧Ext w w':=by
 obtain ⟨v1,v2,v4,v5,rfl,r1,r2,hN,hS,hO,hI⟩:=id hB
 obtain ⟨a1,k1,rfl,g1,g2,g3,_⟩:=hN
 obtain ⟨a2,k2,rfl,n1,n2,n3,n4⟩:=id hS
 obtain ⟨a4,k4,rfl,o1,o2,o3,_⟩:=id hO
 obtain ⟨a5,k5,rfl,l1,l2,l3,l4⟩:=id hI
 unfold maxLen at g2 n2 o2 l2
 obtain ⟨W0,hW0,hbx,hx0,hz⟩:=aN w [.int .i64 b.roots,.slice a1 b.nodes.length k1,.slice a2 b.sites.length k2,.int .i64 b.edges,.slice a4 b.outer.length k4,.slice a5 b.inner.length k5] 40
 have p0:=(hbx 0 _ rfl).1
 have p1:=(hbx 1 _ rfl).1
 have p2:=(hbx 2 _ rfl).1
 have p3:=(hbx 3 _ rfl).1
 have p4:=(hbx 4 _ rfl).1
 have p5:=(hbx 5 _ rfl).1
 have hzz:w.heap.size<W0.heap.size:=by omega
 clear hz hbx
 replace hV:=hV.ext fo.keeps hx0
 replace hB:=bW.keeps _ _ _ _ _ _ (bV.ext hx0) hB
 replace hO:=hO.ext dv.keeps hx0
 go_enter Tryz.func123,Tryz.ntmps123
 have Hr:=Lib.hid trivial
 have hn:True:=trivial
 have hs:True:=trivial
 have He:=Lib.hid trivial
 cases ha:kX sig
 have Ha:=Lib.hid ha;clear ha
 have isF:=trivial
 rotate_left
 have Ha:=Lib.hid ha;clear ha
 have hsl:=wv Ha.out
 cases hr:inR b.roots 0 4
 have Hr:=Lib.hid hr;clear hr
 have isF:=trivial
 rotate_left
 have Hr:=Lib.hid hr;clear hr
 by_cases hn:8<b.nodes.length
 have en:decide (8<b.nodes.length)=true:=decide_eq_true hn
 have isF:=trivial
 rotate_left
 have en:decide (8<b.nodes.length)=false:=decide_eq_false hn
 by_cases hs:4<b.sites.length
 have es:decide (4<b.sites.length)=true:=decide_eq_true hs
 have isF:=trivial
 rotate_left
 have es:decide (4<b.sites.length)=false:=decide_eq_false hs
 cases he:inR b.edges 0 8
 have He:=Lib.hid he;clear he
 have isF:=trivial
 rotate_left
 have He:=Lib.hid he;clear he
 all_goals go_wp2_with (first|(go_at_call 86;(refine (bU _ _ _ _).mono ?_);rintro e y ⟨rfl,rfl⟩;rw [He.out])|(go_at_call 86;(refine (bU _ _ _ _).mono ?_);rintro e y ⟨rfl,rfl⟩;rw [Hr.out])|(go_at_call 122;(refine (mZ lo hi _ _ _ hV).mono ?_);rintro e y ⟨rfl,hb⟩;rw [Ha.out];replace p0:=Ext.keep hb p0;replace p1:=Ext.keep hb p1;replace p2:=Ext.keep hb p2;replace p3:=Ext.keep hb p3;replace p4:=Ext.keep hb p4;replace p5:=Ext.keep hb p5;replace hV:=hV.ext fo.keeps hb;replace hB:=bW.keeps _ _ _ _ _ _ (bV.ext hb) hB;replace hO:=hO.ext dv.keeps hb))
 all_goals first|(have:=isF;go_ret;exact ⟨am (k9 (by unfold mJ;simp [Ha.out,Hr.out,hn,hs,He.out];try omega)).symm,xw⟩)|skip
 have hq:True:=trivial
 have Hi:=Lib.hid trivial
 cases ho:dp b.outer
 have Ho:=Lib.hid ho;clear ho
 have isF:=trivial
 rotate_left
 have Ho:=Lib.hid ho;clear ho
 by_cases hq:16<b.inner.length
 have eq:decide (16<b.inner.length)=true:=decide_eq_true hq
 have isF:=trivial
 rotate_left
 have eq:decide (16<b.inner.length)=false:=decide_eq_false hq
 cases hi:dp (b.inner.map Wr.name)
 have Hi:=Lib.hid hi;clear hi
 have isF:=trivial
 rotate_left
 have Hi:=Lib.hid hi;clear hi
 all_goals go_wp2_with (first|(go_at_call 180;(refine (kI _ _ _ _ _ hIN).mono ?_);rintro e y ⟨rfl,hb⟩;rw [Hi.out];replace p0:=Ext.keep hb p0;replace p1:=Ext.keep hb p1;replace p2:=Ext.keep hb p2;replace p3:=Ext.keep hb p3;replace p4:=Ext.keep hb p4;replace p5:=Ext.keep hb p5;replace hV:=hV.ext fo.keeps hb;replace hB:=bW.keeps _ _ _ _ _ _ (bV.ext hb) hB;replace hO:=hO.ext dv.keeps hb)|(go_at_call 180;(refine (kI lo' hi' _ _ _ hO).mono ?_);rintro e y ⟨rfl,hb⟩;rw [Ho.out];replace p0:=Ext.keep hb p0;replace p1:=Ext.keep hb p1;replace p2:=Ext.keep hb p2;replace p3:=Ext.keep hb p3;replace p4:=Ext.keep hb p4;replace p5:=Ext.keep hb p5;replace hV:=hV.ext fo.keeps hb;replace hB:=bW.keeps _ _ _ _ _ _ (bV.ext hb) hB;replace hO:=hO.ext dv.keeps hb)|(go_at_call 181;refine (pw lo' hi' [.int .i64 b.roots,.slice a1 b.nodes.length k1,.slice a2 b.sites.length k2,.int .i64 b.edges,.slice a4 b.outer.length k4,.slice a5 b.inner.length k5] b _ hB hlen).mono ?_;rintro e y ⟨v9,rfl,hIN,hb⟩;replace p0:=Ext.keep hb p0;replace p1:=Ext.keep hb p1;replace p2:=Ext.keep hb p2;replace p3:=Ext.keep hb p3;replace p4:=Ext.keep hb p4;replace p5:=Ext.keep hb p5;replace hV:=hV.ext fo.keeps hb;replace hB:=bW.keeps _ _ _ _ _ _ (bV.ext hb) hB;replace hO:=hO.ext dv.keeps hb))
 all_goals first|(have:=isF;go_ret;exact ⟨am (k9 (by unfold mJ;first|(simp [Ho.out,hq,Hi.out];done)|(have hnl:dp (b.inner.map Wr.name)=false:=(by cases hh:dp (b.inner.map Wr.name);rfl;exfalso;have:=eu hh;simp at this;omega);simp [hnl]))).symm,xw⟩)|skip
 have HH:=Lib.hid (show mJ sig b=true by unfold mJ;rw [Ha.out,Hr.out,He.out,Ho.out,Hi.out];simp;omega)
 clear hIN
 have hol:b.outer.length≤1000:=by have:=eu Ho.out;omega
 have hX1:Ext w y:=xw
 go_loopw [5] (fun c wr=>∃i:Nat,c=.int .i64 i∧i≤b.nodes.length∧(List.range i).all (ey sig b)=true∧Ext y wr) (fun c _=>b.nodes.length - (intOf c).toNat)
 case atStart=>exact ⟨0,rfl,Nat.zero_le _,rfl,Ext.refl _⟩
 case round=>
  obtain ⟨i,rfl,hi0,hok,hx⟩:=hrel
  have HOK:=Lib.hid hok
  clear hok
  have hX:Ext w wr:=hX1.trans hx
  replace p0:=hx.keep p0
  replace p1:=hx.keep p1
  replace p2:=hx.keep p2
  replace p3:=hx.keep p3
  replace p4:=hx.keep p4
  replace p5:=hx.keep p5
  replace hV:=hV.ext fo.keeps hx
  replace hB:=bW.keeps _ _ _ _ _ _ (bV.ext hx) hB
  by_cases hlt:i<b.nodes.length
  ·have HS:=Lib.hid (bM (ey sig b) i)
   have hC:=nM HOK.out
   cases hm:ey sig b i
   have Hm:=Lib.hid hm;clear hm
   have isF:=trivial
   rotate_left
   have Hm:=Lib.hid hm;clear hm
   have isP:=trivial
   all_goals go_wp2_with (first|(go_at_call 182;(refine (qN lo hi lo' hi' _ sig _ b i _ hV hB Hr.out He.out hol hsl.2 hlt hC).mono ?_);rintro e y ⟨rfl,hb⟩;rw [Hm.out];replace p0:=Ext.keep hb p0;replace p1:=Ext.keep hb p1;replace p2:=Ext.keep hb p2;replace p3:=Ext.keep hb p3;replace p4:=Ext.keep hb p4;replace p5:=Ext.keep hb p5))
   all_goals first|(have:=isF;go_ret;exact ⟨am (oV i hlt Hm.out).symm,xw⟩)|(have:=isP;go_roundw;(case rel=>exact ⟨i+1,rfl,by omega,by rw [HS.out,HOK.out,Hm.out];rfl,xw⟩);· simp only [intOf];omega)
  ·have e:i=b.nodes.length:=by omega
   subst e
   have hC:=nM HOK.out
   have HNA:=HOK
   clear HOK
   go_wp2
   go_loopw [6] (fun c wi=>∃i:Nat,c=.int .i64 i∧i≤b.sites.length∧(b.sites.take i).all (fe sig b)=true∧Ext wr wi) (fun c _=>b.sites.length - (intOf c).toNat)
   case atStart=>exact ⟨0,rfl,Nat.zero_le _,rfl,Ext.refl _⟩
   case round=>
    obtain ⟨i,rfl,hi0,hok,hxi⟩:=hrel
    have HOK:=Lib.hid hok
    clear hok
    have hXi:Ext w wr:=hX.trans hxi
    replace p0:=hxi.keep p0
    replace p1:=hxi.keep p1
    replace p2:=hxi.keep p2
    replace p3:=hxi.keep p3
    replace p4:=hxi.keep p4
    replace p5:=hxi.keep p5
    replace hV:=hV.ext fo.keeps hxi
    replace hB:=bW.keeps _ _ _ _ _ _ (bV.ext hxi) hB
    by_cases hlt:i<b.sites.length
    ·rcases n4 with n4|⟨b2,o2',rfl,nb1,nb2,n4⟩
     ·rw [n4] at hlt;simp at hlt
     obtain ⟨es,el,⟨rfl,f1⟩,hes⟩:=n4 i hlt
     have t0:=hXi.keep (hes 0 _ rfl)
     rw [Nat.mul_one,Nat.add_zero] at t0
     clear hes n4
     have HT:=Lib.hid (fh (fe sig b) b.sites i hlt)
     have HBD:=Lib.hid (qB (fe sig b) b.sites i hlt)
     have HQ:=Lib.hid (AD sig b b.sites[i])
     have jj0:(0:Int)≤(i:Int):=by omega
     have jj1:(i:Int)<(b.sites.length:Int):=by omega
     cases hk:dB sig b b.sites[i] b.nodes.length
     have Hk:=Lib.hid hk;clear hk
     have isF:=trivial
     rotate_left
     have Hk:=Lib.hid hk;clear hk
     have isP:=trivial
     all_goals go_wp2_with fail
     all_goals
      refine wp_region_held_drew (S:=(fun w'=>Ext wr w')) (by kernel_rfl) ?_ (fun hHeld=>?_)
      ·refine xw
      refine tkP 0 ?_ ?_ ?_;rotate_left;focus (intro w;go_simp;try with_reducible rfl)
      try simp only [Act.put,aj]
      refine tkY 1 ?_ ?_ ?_;rotate_left;focus (intro w hSw;(try dsimp only at hSw);have sx:=hSw;have s_p0:=Ext.keep sx p0;have s_p1:=Ext.keep sx p1;have s_p2:=Ext.keep sx p2;have s_p3:=Ext.keep sx p3;have s_p4:=Ext.keep sx p4;have s_p5:=Ext.keep sx p5;have s_t0:=Ext.keep sx t0;go_simp;try with_reducible rfl)
      try simp only [Act.put,aj]
      refine tkP 2 ?_ ?_ ?_;rotate_left;focus (intro w;go_simp;try with_reducible rfl)
      try simp only [Act.put,aj]
      refine tkY 3 ?_ ?_ ?_;rotate_left;focus (intro w hSw;(try dsimp only at hSw);have sx:=hSw;have s_p0:=Ext.keep sx p0;have s_p1:=Ext.keep sx p1;have s_p2:=Ext.keep sx p2;have s_p3:=Ext.keep sx p3;have s_p4:=Ext.keep sx p4;have s_p5:=Ext.keep sx p5;have s_t0:=Ext.keep sx t0;go_simp;try with_reducible rfl)
      try simp only [Act.put,aj]
      refine tkP 4 ?_ ?_ ?_;rotate_left;focus (intro w;go_simp;try with_reducible rfl)
      try simp only [Act.put,aj]
      refine tkP 5 ?_ ?_ ?_;rotate_left;focus (intro w;go_simp;try with_reducible rfl)
      try simp only [Act.put,aj]
      refine tkY 6 ?_ ?_ ?_;rotate_left;focus (intro w hSw;(try dsimp only at hSw);have sx:=hSw;have s_p0:=Ext.keep sx p0;have s_p1:=Ext.keep sx p1;have s_p2:=Ext.keep sx p2;have s_p3:=Ext.keep sx p3;have s_p4:=Ext.keep sx p4;have s_p5:=Ext.keep sx p5;have s_t0:=Ext.keep sx t0;go_simp;try with_reducible rfl)
      try simp only [Act.put,aj]
      refine tkP 7 ?_ ?_ ?_;rotate_left;focus (intro w;go_simp;try with_reducible rfl)
      try simp only [Act.put,aj]
      refine tkY 8 ?_ ?_ ?_;rotate_left;focus (intro w hSw;(try dsimp only at hSw);have sx:=hSw;have s_p0:=Ext.keep sx p0;have s_p1:=Ext.keep sx p1;have s_p2:=Ext.keep sx p2;have s_p3:=Ext.keep sx p3;have s_p4:=Ext.keep sx p4;have s_p5:=Ext.keep sx p5;have s_t0:=Ext.keep sx t0;go_simp;try with_reducible rfl)
      try simp only [Act.put,aj]
      refine tkP 9 ?_ ?_ ?_;rotate_left;focus (intro w;go_simp;try with_reducible rfl)
      try simp only [Act.put,aj]
      refine wpAnyH_ready (rs:=[10]) (by kernel_rfl) (by simp) ?_
      refine AllReadyH.cons rfl (fun K hK=>?_) AllReadyH.nil
      (try simp only [aj])
      go_simp
      (have hSw:=hHeld;(try dsimp only at hSw);have sx:=hSw;have s_p0:=Ext.keep sx p0;have s_p1:=Ext.keep sx p1;have s_p2:=Ext.keep sx p2;have s_p3:=Ext.keep sx p3;have s_p4:=Ext.keep sx p4;have s_p5:=Ext.keep sx p5;have s_t0:=Ext.keep sx t0;have s_hV:=hV.ext fo.keeps sx;have s_hB:=bW.keeps _ _ _ _ _ _ (bV.ext sx) hB;go_at_call 183;(refine (fF lo hi lo' hi' _ sig _ b _ _ _ s_hV s_hB f1 Hr.out (by omega) hC).mono ?_);rintro e y ⟨rfl,hb⟩;rw [Hk.out])
      show K _ _
      refine hK.out _ _ (by (have hh:=hHeld;(try dsimp only at hh);exact hh.trans hb)) (fun hHeld=>?_)
      clear hK K
      try simp only [Act.put,aj]
      refine tkP 11 ?_ ?_ ?_;rotate_left;focus (intro w;go_simp;try with_reducible rfl)
      try simp only [Act.put,aj]
      refine wpAnyH_done (by kernel_rfl) ?_ _
     all_goals go_wp2
     all_goals first|(have:=isF;all_goals go_ret;all_goals exact ⟨am (u9 (HBD.out (by rw [HQ.out];exact Hk.out))).symm,xw⟩)|(have:=isP;all_goals go_roundw;(case rel=>exact ⟨i+1,rfl,by omega,by rw [HT.out,HOK.out,HQ.out,Hk.out];rfl,xw⟩);all_goals (simp only [intOf];omega))
    ·have HSA:=Lib.hid (jX (fe sig b) b.sites i (by omega) HOK.out)
     go_wp2
     go_loopw [7] (fun c wi=>∃i:Nat,c=.int .i64 i∧i≤b.inner.length∧(b.inner.take i).all (fM b)=true∧Ext wr wi) (fun c _=>b.inner.length - (intOf c).toNat)
     case atStart=>exact ⟨0,rfl,Nat.zero_le _,rfl,Ext.refl _⟩
     case round=>
      obtain ⟨i,rfl,hi0,hok,hxj⟩:=hrel
      have HOK2:=Lib.hid hok
      clear hok
      have hXj:Ext w wr:=hXi.trans hxj
      replace p0:=hxj.keep p0
      replace p1:=hxj.keep p1
      replace p2:=hxj.keep p2
      replace p3:=hxj.keep p3
      replace p4:=hxj.keep p4
      replace p5:=hxj.keep p5
      replace hB:=bW.keeps _ _ _ _ _ _ (bV.ext hxj) hB
      by_cases hlt:i<b.inner.length
      ·rcases l4 with l4|⟨b2,o2',rfl,nb1,nb2,l4⟩
       ·rw [l4] at hlt;simp at hlt
       obtain ⟨es,el,⟨rfl,f1,f2⟩,hes⟩:=l4 i hlt
       have t1:=hXj.keep (hes 1 _ rfl)
       clear hes l4
       have HT:=Lib.hid (fh (fM b) b.inner i hlt)
       have HBD:=Lib.hid (qB (fM b) b.inner i hlt)
       have HQ:=Lib.hid (AL b b.inner[i])
       have jj0:(0:Int)≤(i:Int):=by omega
       have jj1:(i:Int)<(b.inner.length:Int):=by omega
       cases hk:dJ b b.inner[i].link
       have Hk:=Lib.hid hk;clear hk
       have isF:=trivial
       rotate_left
       have Hk:=Lib.hid hk;clear hk
       have isP:=trivial
       all_goals go_wp2_with fail
       all_goals
        refine wp_region_held_drew (S:=(fun w'=>Ext wr w')) (by kernel_rfl) ?_ (fun hHeld=>?_)
        ·refine xw
        refine tkY 0 ?_ ?_ ?_;rotate_left;focus (intro w hSw;(try dsimp only at hSw);have sx:=hSw;have s_p0:=Ext.keep sx p0;have s_p1:=Ext.keep sx p1;have s_p2:=Ext.keep sx p2;have s_p3:=Ext.keep sx p3;have s_p4:=Ext.keep sx p4;have s_p5:=Ext.keep sx p5;have s_t1:=Ext.keep sx t1;go_simp;try with_reducible rfl)
        try simp only [Act.put,aj]
        refine tkP 1 ?_ ?_ ?_;rotate_left;focus (intro w;go_simp;try with_reducible rfl)
        try simp only [Act.put,aj]
        refine tkY 2 ?_ ?_ ?_;rotate_left;focus (intro w hSw;(try dsimp only at hSw);have sx:=hSw;have s_p0:=Ext.keep sx p0;have s_p1:=Ext.keep sx p1;have s_p2:=Ext.keep sx p2;have s_p3:=Ext.keep sx p3;have s_p4:=Ext.keep sx p4;have s_p5:=Ext.keep sx p5;have s_t1:=Ext.keep sx t1;go_simp;try with_reducible rfl)
        try simp only [Act.put,aj]
        refine tkP 3 ?_ ?_ ?_;rotate_left;focus (intro w;go_simp;try with_reducible rfl)
        try simp only [Act.put,aj]
        refine tkP 4 ?_ ?_ ?_;rotate_left;focus (intro w;go_simp;try with_reducible rfl)
        try simp only [Act.put,aj]
        refine tkP 5 ?_ ?_ ?_;rotate_left;focus (intro w;go_simp;try with_reducible rfl)
        try simp only [Act.put,aj]
        refine tkY 6 ?_ ?_ ?_;rotate_left;focus (intro w hSw;(try dsimp only at hSw);have sx:=hSw;have s_p0:=Ext.keep sx p0;have s_p1:=Ext.keep sx p1;have s_p2:=Ext.keep sx p2;have s_p3:=Ext.keep sx p3;have s_p4:=Ext.keep sx p4;have s_p5:=Ext.keep sx p5;have s_t1:=Ext.keep sx t1;go_simp;try with_reducible rfl)
        try simp only [Act.put,aj]
        refine wpAnyH_ready (rs:=[7]) (by kernel_rfl) (by simp) ?_
        refine AllReadyH.cons rfl (fun K hK=>?_) AllReadyH.nil
        (try simp only [aj])
        go_simp
        (have hSw:=hHeld;(try dsimp only at hSw);have sx:=hSw;have s_p0:=Ext.keep sx p0;have s_p1:=Ext.keep sx p1;have s_p2:=Ext.keep sx p2;have s_p3:=Ext.keep sx p3;have s_p4:=Ext.keep sx p4;have s_p5:=Ext.keep sx p5;have s_t1:=Ext.keep sx t1;have s_hB:=bW.keeps _ _ _ _ _ _ (bV.ext sx) hB;go_at_call 184;(refine (lH lo' hi' _ b _ _ s_hB He.out hol).mono ?_);rintro e y ⟨rfl,hb⟩;rw [Hk.out])
        show K _ _
        refine hK.out _ _ (by (have hh:=hHeld;(try dsimp only at hh);exact hh.trans hb)) (fun hHeld=>?_)
        clear hK K
        try simp only [Act.put,aj]
        refine tkP 8 ?_ ?_ ?_;rotate_left;focus (intro w;go_simp;try with_reducible rfl)
        try simp only [Act.put,aj]
        refine wpAnyH_done (by kernel_rfl) ?_ _
       all_goals go_wp2
       all_goals first|(have:=isF;all_goals go_ret;all_goals exact ⟨am (uH (HBD.out (by rw [HQ.out];exact Hk.out))).symm,xw⟩)|(have:=isP;all_goals go_roundw;(case rel=>exact ⟨i+1,rfl,by omega,by rw [HT.out,HOK2.out,HQ.out,Hk.out];rfl,xw⟩);all_goals (simp only [intOf];omega))
      ·have HWA:=Lib.hid (jX (fM b) b.inner i (by omega) HOK2.out)
       go_wp2
       go_ret
       exact ⟨am (CV HH.out HNA.out HSA.out HWA.out).symm,xw⟩
end Go.Proofs.YtclpbhoekmecjaaGreatDoor
namespace Go.Proofs.YtclpbhoekmecjaaGreatDoor
open Go.RowKit
set_option linter.unusedVariables false
set_option linter.unusedSimpArgs false
attribute [local irreducible] inR dD dh kX dp dB dJ fe fM tK
set_option maxRecDepth 100000 in
set_option maxHeartbeats 6400000 in
theorem eL (lo hi lo' hi':Nat) (v:Value) (sig:List Ctl) (cs:List Value) (b:Big) (w:World) (h:lu lo hi w v sig) (hb:bW lo' hi' w cs b) (hlen:b.inner.length≤1048576) :
 Calls Tryz.prog 101 #[v,.agg cs.toArray] w fun e w'=>e=.returned (.bool (ay sig b))∧Ext w w':=by
 have hV:=h
 have hB:=hb
 obtain ⟨a,k,rfl,m1,m2,m3,m4⟩:=h
 obtain ⟨v1,v2,v4,v5,rfl,r1,r2,hN,hS,hO,hI⟩:=hb
 obtain ⟨a1,k1,rfl,g1,g2,g3,g4⟩:=hN
 obtain ⟨a2,k2,rfl,n1,n2,n3,_⟩:=id hS
 obtain ⟨a4,k4,rfl,o1,o2,o3,_⟩:=id hO
 obtain ⟨a5,k5,rfl,l1,l2,l3,_⟩:=id hI
 unfold maxLen at g2 m2 n2 o2 l2
 obtain ⟨W0,hW0,hbx0,hx0,hz0⟩:=aN w [.slice a sig.length k] 43
 obtain ⟨W1,hW1,hbx1,hx1,hz1⟩:=aN W0 [.int .i64 b.roots,.slice a1 b.nodes.length k1,.slice a2 b.sites.length k2,.int .i64 b.edges,.slice a4 b.outer.length k4,.slice a5 b.inner.length k5] 40
 have ps:=hx1.keep (hbx0 0 _ rfl).1
 have hbb:∀j u,([.int .i64 b.roots,.slice a1 b.nodes.length k1,.slice a2 b.sites.length k2,.int .i64 b.edges,.slice a4 b.outer.length k4,.slice a5 b.inner.length k5]:List Value)[j]? = some u→W1.cell? ⟨W0.heap.size,j,none⟩=some u:=fun j u hj=>(hbx1 j u hj).1
 have p0:=hbb 0 _ rfl
 have p1:=hbb 1 _ rfl
 have p2:=hbb 2 _ rfl
 have p3:=hbb 3 _ rfl
 have p4:=hbb 4 _ rfl
 have p5:=hbb 5 _ rfl
 have hzz:w.heap.size<W0.heap.size:=by omega
 clear hz0 hz1 hbx0 hbx1
 have hx01:=hx0.trans hx1
 replace hV:=hV.ext fo.keeps hx01
 replace hB:=bW.keeps _ _ _ _ _ _ (bV.ext hx01) hB
 replace hS:=hS.ext bS.keeps hx01
 replace hO:=hO.ext dv.keeps hx01
 replace hI:=hI.ext WrP.keeps hx01
 have HBB:=Lib.hid hbb
 clear hbb
 go_enter Tryz.func101,Tryz.ntmps101
 have Hr:=Lib.hid trivial
 have hn:True:=trivial
 have hs:True:=trivial
 have He:=Lib.hid trivial
 have Ho:=Lib.hid trivial
 have Hi:=Lib.hid trivial
 cases ha:kX sig
 have Ha:=Lib.hid ha;clear ha
 have isF:=trivial
 rotate_left
 have Ha:=Lib.hid ha;clear ha
 have hsl:=wv Ha.out
 cases hr:inR b.roots 0 4
 have Hr:=Lib.hid hr;clear hr
 have isF:=trivial
 rotate_left
 have Hr:=Lib.hid hr;clear hr
 by_cases hn:8<b.nodes.length
 have en:decide (8<b.nodes.length)=true:=decide_eq_true hn
 have isF:=trivial
 rotate_left
 have en:decide (8<b.nodes.length)=false:=decide_eq_false hn
 by_cases hs:4<b.sites.length
 have es:decide (4<b.sites.length)=true:=decide_eq_true hs
 have isF:=trivial
 rotate_left
 have es:decide (4<b.sites.length)=false:=decide_eq_false hs
 cases he:inR b.edges 0 8
 have He:=Lib.hid he;clear he
 have isF:=trivial
 rotate_left
 have He:=Lib.hid he;clear he
 cases ho:dp b.outer
 have Ho:=Lib.hid ho;clear ho
 have isF:=trivial
 rotate_left
 have Ho:=Lib.hid ho;clear ho
 cases hi:dp (b.inner.map Wr.name)
 have Hi:=Lib.hid hi;clear hi
 have isF:=trivial
 rotate_left
 have Hi:=Lib.hid hi;clear hi
 all_goals go_wp2_with (first|(go_at_call 145;(refine (jK _ _ _ _ _ hIN).mono ?_);rintro e y ⟨rfl,hb⟩;rw [Hi.out];replace ps:=Ext.keep hb ps;replace p0:=Ext.keep hb p0;replace p1:=Ext.keep hb p1;replace p2:=Ext.keep hb p2;replace p3:=Ext.keep hb p3;replace p4:=Ext.keep hb p4;replace p5:=Ext.keep hb p5;replace hV:=hV.ext fo.keeps hb;replace hB:=bW.keeps _ _ _ _ _ _ (bV.ext hb) hB;replace hS:=hS.ext bS.keeps hb;replace hO:=hO.ext dv.keeps hb;replace hI:=hI.ext WrP.keeps hb)|(go_at_call 145;(refine (jK lo' hi' _ _ _ hO).mono ?_);rintro e y ⟨rfl,hb⟩;rw [Ho.out];replace ps:=Ext.keep hb ps;replace p0:=Ext.keep hb p0;replace p1:=Ext.keep hb p1;replace p2:=Ext.keep hb p2;replace p3:=Ext.keep hb p3;replace p4:=Ext.keep hb p4;replace p5:=Ext.keep hb p5;replace hV:=hV.ext fo.keeps hb;replace hB:=bW.keeps _ _ _ _ _ _ (bV.ext hb) hB;replace hS:=hS.ext bS.keeps hb;replace hO:=hO.ext dv.keeps hb;replace hI:=hI.ext WrP.keeps hb)|(go_at_call 58;(refine (aP _ _ _ _).mono ?_);rintro e y ⟨rfl,rfl⟩;rw [He.out])|(go_at_call 58;(refine (aP _ _ _ _).mono ?_);rintro e y ⟨rfl,rfl⟩;rw [Hr.out])|(go_at_call 144;(refine (mb lo hi _ _ _ hV).mono ?_);rintro e y ⟨rfl,hb⟩;rw [Ha.out];replace ps:=Ext.keep hb ps;replace p0:=Ext.keep hb p0;replace p1:=Ext.keep hb p1;replace p2:=Ext.keep hb p2;replace p3:=Ext.keep hb p3;replace p4:=Ext.keep hb p4;replace p5:=Ext.keep hb p5;replace hV:=hV.ext fo.keeps hb;replace hB:=bW.keeps _ _ _ _ _ _ (bV.ext hb) hB;replace hS:=hS.ext bS.keeps hb;replace hO:=hO.ext dv.keeps hb;replace hI:=hI.ext WrP.keeps hb)|(go_at_call 146;refine (iE lo' hi' [.int .i64 b.roots,.slice a1 b.nodes.length k1,.slice a2 b.sites.length k2,.int .i64 b.edges,.slice a4 b.outer.length k4,.slice a5 b.inner.length k5] b _ hB hlen).mono ?_;rintro e y ⟨v9,rfl,hIN,hb⟩;replace ps:=Ext.keep hb ps;replace p0:=Ext.keep hb p0;replace p1:=Ext.keep hb p1;replace p2:=Ext.keep hb p2;replace p3:=Ext.keep hb p3;replace p4:=Ext.keep hb p4;replace p5:=Ext.keep hb p5;replace hV:=hV.ext fo.keeps hb;replace hB:=bW.keeps _ _ _ _ _ _ (bV.ext hb) hB;replace hS:=hS.ext bS.keeps hb;replace hO:=hO.ext dv.keeps hb;replace hI:=hI.ext WrP.keeps hb))
 all_goals first|(have:=isF;go_ret;exact ⟨am (k9 (by unfold mJ;simp [Ha.out,Hr.out,hn,hs,He.out,Ho.out,Hi.out];try omega)).symm,xw⟩)|skip
 have HH:=Lib.hid (show mJ sig b=true by unfold mJ;rw [Ha.out,Hr.out,He.out,Ho.out,Hi.out];simp;omega)
 clear hIN
 obtain ⟨_,hr,_,_,he,hno,_⟩:=de HH.out
 have HR:=Lib.hid hr
 have HE:=Lib.hid he
 have hol:b.outer.length≤1000:=by have:=eu hno;omega
 clear hr he hno
 have eg1:∀args w,(callFunc 148 args).run Tryz.prog w=.ok (.enter 148 args) w:=enters_of Tryz.func148 (by kernel_rfl) rfl
 have eg2:∀args w,(callFunc 150 args).run Tryz.prog w=.ok (.enter 150 args) w:=enters_of Tryz.func150 (by kernel_rfl) rfl
 have eg3:∀args w,(callFunc 152 args).run Tryz.prog w=.ok (.enter 152 args) w:=enters_of Tryz.func152 (by kernel_rfl) rfl
 have hY1:Ext W1 y:=xw
 go_loopw [49] (fun c wr=>∃i:Nat,c=.int .i64 i∧i≤b.nodes.length∧(List.range i).all (ey sig b)=true∧Ext y wr) (fun c _=>b.nodes.length - (intOf c).toNat)
 case atStart=>exact ⟨0,rfl,Nat.zero_le _,rfl,Ext.refl _⟩
 case round=>
  obtain ⟨i,rfl,hi0,hok,hx⟩:=hrel
  have HOK:=Lib.hid hok
  clear hok
  have hX1:Ext W1 wr:=hY1.trans hx
  have hX:Ext w wr:=hx01.trans hX1
  replace ps:=hx.keep ps
  replace p0:=hx.keep p0
  replace p1:=hx.keep p1
  replace p2:=hx.keep p2
  replace p3:=hx.keep p3
  replace p4:=hx.keep p4
  replace p5:=hx.keep p5
  replace hV:=hV.ext fo.keeps hx
  replace hB:=bW.keeps _ _ _ _ _ _ (bV.ext hx) hB
  by_cases hlt:i<b.nodes.length
  ·have hbad:=oV (sig:=sig) i hlt
   have HA:=Lib.hid (ma sig b i hlt)
   have HS:=Lib.hid (bM (ey sig b) i)
   have hC:=nM HOK.out
   have HSG:=Lib.hid (i8 sig)
   rcases g4 with g4|⟨b1,o1,rfl,gb1,gb2,g4⟩
   ·rw [g4] at hlt;simp at hlt
   obtain ⟨cs,hl,hnp,hc⟩:=g4 i hlt
   generalize hnd:b.nodes[i]=nd at hnp HA
   obtain ⟨nc,np,nl⟩:=nd
   obtain ⟨nv,rfl,e1,e2,e3⟩:=hnp
   have q0:=hX.keep (hc 0 _ rfl)
   have q1:=hX.keep (hc 1 _ rfl)
   have q2:=hX.keep (hc 2 _ rfl)
   rw [Nat.add_zero] at q0
   have hLV:=e3.ext bS.keeps hX
   obtain ⟨la,lk,rfl,y1,y2,y3,_⟩:=e3
   dsimp only at *
   unfold maxLen at y2
   clear hc g4 hnd
   unfold I64 at e1
   have hsw:=IntWalk.i64_in ((sig.length:Int) - 1) (by omega)
   cases hc:inR nc 0 ((sig.length:Int) - 1)
   ·have Hc:=Lib.hid hc
    clear hc
    have HB:=Lib.hid (hbad (by rw [HA.out];first|(rw [HK.out];simp [Hc.out];done)|simp [Hc.out]))
    clear hbad
    go_wp2_with fail
    refine wp_region_held_drew (S:=(fun w'=>dj w' wr.heap.size [.int .i64 nc,.int .i64 np,.slice la nl.length lk]∧Ext wr w')) (by kernel_rfl) ?_ (fun hHeld=>?_)
    ·(refine ⟨?_,xw⟩;all_goals (intro j u hj;rcases j with _|_|_|_|_|_|_|_|j <;> simp at hj <;> (subst hj;simp)))
    refine tkP 0 ?_ ?_ ?_;rotate_left;focus (intro w;go_simp;try with_reducible rfl)
    try simp only [Act.put,aj]
    refine tkY 1 ?_ ?_ ?_;rotate_left;focus (intro w hSw;(try dsimp only at hSw);obtain ⟨bx0,sx⟩:=hSw;have c0_0:=(bx0 0 _ rfl).1;have c0_1:=(bx0 1 _ rfl).1;have c0_2:=(bx0 2 _ rfl).1;have s_ps:=Ext.keep sx ps;have s_p0:=Ext.keep sx p0;have s_p1:=Ext.keep sx p1;have s_p2:=Ext.keep sx p2;have s_p3:=Ext.keep sx p3;have s_p4:=Ext.keep sx p4;have s_p5:=Ext.keep sx p5;(try have s_s1:=Ext.keep sx s1);go_simp;try with_reducible rfl)
    try simp only [Act.put,aj]
    refine tkY 2 ?_ ?_ ?_;rotate_left;focus (intro w hSw;(try dsimp only at hSw);obtain ⟨bx0,sx⟩:=hSw;have c0_0:=(bx0 0 _ rfl).1;have c0_1:=(bx0 1 _ rfl).1;have c0_2:=(bx0 2 _ rfl).1;have s_ps:=Ext.keep sx ps;have s_p0:=Ext.keep sx p0;have s_p1:=Ext.keep sx p1;have s_p2:=Ext.keep sx p2;have s_p3:=Ext.keep sx p3;have s_p4:=Ext.keep sx p4;have s_p5:=Ext.keep sx p5;(try have s_s1:=Ext.keep sx s1);go_simp;try with_reducible rfl)
    try simp only [Act.put,aj]
    refine tkP 3 ?_ ?_ ?_;rotate_left;focus (intro w;go_simp;try with_reducible rfl)
    try simp only [Act.put,aj]
    refine tkP 4 ?_ ?_ ?_;rotate_left;focus (intro w;go_simp;try with_reducible rfl)
    try simp only [Act.put,aj]
    refine wpAnyH_ready (rs:=[5]) (by kernel_rfl) (by simp) ?_
    refine AllReadyH.cons rfl (fun K hK=>?_) AllReadyH.nil
    (try simp only [aj])
    go_simp
    (go_at_call 58;(refine (aP _ _ _ _).mono ?_);rintro e y ⟨rfl,rfl⟩;rw [Hc.out])
    show K _ _
    refine hK.out _ _ (by exact hHeld) (fun hHeld=>?_)
    clear hK K
    try simp only [Act.put,aj]
    refine tkP 6 ?_ ?_ ?_;rotate_left;focus (intro w;go_simp;try with_reducible rfl)
    try simp only [Act.put,aj]
    refine tkP 7 ?_ ?_ ?_;rotate_left;focus (intro w;go_simp;try with_reducible rfl)
    try simp only [Act.put,aj]
    refine tkN 8 ?_
    try simp only [Act.put,aj]
    refine tkN 9 ?_
    try simp only [Act.put,aj]
    refine tkN 10 ?_
    try simp only [Act.put,aj]
    refine tkN 11 ?_
    try simp only [Act.put,aj]
    refine tkN 12 ?_
    try simp only [Act.put,aj]
    refine tkN 13 ?_
    try simp only [Act.put,aj]
    refine tkN 14 ?_
    try simp only [Act.put,aj]
    refine tkP 15 ?_ ?_ ?_;rotate_left;focus (intro w;go_simp;try with_reducible rfl)
    try simp only [Act.put,aj]
    refine tkP 16 ?_ ?_ ?_;rotate_left;focus (intro w;go_simp;try with_reducible rfl)
    try simp only [Act.put,aj]
    refine tkN 17 ?_
    try simp only [Act.put,aj]
    refine tkN 18 ?_
    try simp only [Act.put,aj]
    refine tkN 19 ?_
    try simp only [Act.put,aj]
    refine tkN 20 ?_
    try simp only [Act.put,aj]
    refine tkN 21 ?_
    try simp only [Act.put,aj]
    refine tkN 22 ?_
    try simp only [Act.put,aj]
    refine tkN 23 ?_
    try simp only [Act.put,aj]
    refine tkN 24 ?_
    try simp only [Act.put,aj]
    refine tkN 25 ?_
    try simp only [Act.put,aj]
    refine tkN 26 ?_
    try simp only [Act.put,aj]
    refine tkP 27 ?_ ?_ ?_;rotate_left;focus (intro w;go_simp;try with_reducible rfl)
    try simp only [Act.put,aj]
    refine tkP 28 ?_ ?_ ?_;rotate_left;focus (intro w;go_simp;try with_reducible rfl)
    try simp only [Act.put,aj]
    refine tkN 29 ?_
    try simp only [Act.put,aj]
    refine tkN 30 ?_
    try simp only [Act.put,aj]
    refine tkN 31 ?_
    try simp only [Act.put,aj]
    refine tkN 32 ?_
    try simp only [Act.put,aj]
    refine tkP 33 ?_ ?_ ?_;rotate_left;focus (intro w;go_simp;try with_reducible rfl)
    try simp only [Act.put,aj]
    refine wpAnyH_done (by kernel_rfl) ?_ _
    all_goals go_wp2
    all_goals go_ret
    all_goals exact ⟨am HB.out.symm,xw⟩
   have Hc:=Lib.hid hc
   clear hc
   obtain ⟨hc0,hc1⟩:=bL Hc.out;obtain ⟨m,rfl⟩:=Int.eq_ofNat_of_zero_le hc0;have hml:m<sig.length:=(by omega);rcases m4 with m4|⟨b2,o2,rfl,mb1,mb2,m4⟩;(exfalso;rw [m4] at hml;simp at hml);obtain ⟨ds,dl,⟨rfl,d1,d2,d3⟩,hds⟩:=m4 m hml;have s1:=hX.keep (hds 1 _ rfl);have HK:=Lib.hid (HSG.out m hml);clear hds m4;unfold I64 at d2;have jm0:(0:Int)≤(m:Int):=(by omega);have jm1:(m:Int)<(sig.length:Int):=(by omega)
   cases hu:dB sig b np i
   ·have Hu:=Lib.hid hu
    clear hu
    have HB:=Lib.hid (hbad (by rw [HA.out];first|(rw [HK.out];simp [Hc.out,Hu.out];done)|simp [Hc.out,Hu.out]))
    clear hbad
    go_wp2_with fail
    refine wp_region_held_drew (S:=(fun w'=>dj w' wr.heap.size [.int .i64 (m:Int),.int .i64 np,.slice la nl.length lk]∧Ext wr w')) (by kernel_rfl) ?_ (fun hHeld=>?_)
    ·(refine ⟨?_,xw⟩;all_goals (intro j u hj;rcases j with _|_|_|_|_|_|_|_|j <;> simp at hj <;> (subst hj;simp)))
    refine tkP 0 ?_ ?_ ?_;rotate_left;focus (intro w;go_simp;try with_reducible rfl)
    try simp only [Act.put,aj]
    refine tkY 1 ?_ ?_ ?_;rotate_left;focus (intro w hSw;(try dsimp only at hSw);obtain ⟨bx0,sx⟩:=hSw;have c0_0:=(bx0 0 _ rfl).1;have c0_1:=(bx0 1 _ rfl).1;have c0_2:=(bx0 2 _ rfl).1;have s_ps:=Ext.keep sx ps;have s_p0:=Ext.keep sx p0;have s_p1:=Ext.keep sx p1;have s_p2:=Ext.keep sx p2;have s_p3:=Ext.keep sx p3;have s_p4:=Ext.keep sx p4;have s_p5:=Ext.keep sx p5;(try have s_s1:=Ext.keep sx s1);go_simp;try with_reducible rfl)
    try simp only [Act.put,aj]
    refine tkY 2 ?_ ?_ ?_;rotate_left;focus (intro w hSw;(try dsimp only at hSw);obtain ⟨bx0,sx⟩:=hSw;have c0_0:=(bx0 0 _ rfl).1;have c0_1:=(bx0 1 _ rfl).1;have c0_2:=(bx0 2 _ rfl).1;have s_ps:=Ext.keep sx ps;have s_p0:=Ext.keep sx p0;have s_p1:=Ext.keep sx p1;have s_p2:=Ext.keep sx p2;have s_p3:=Ext.keep sx p3;have s_p4:=Ext.keep sx p4;have s_p5:=Ext.keep sx p5;(try have s_s1:=Ext.keep sx s1);go_simp;try with_reducible rfl)
    try simp only [Act.put,aj]
    refine tkP 3 ?_ ?_ ?_;rotate_left;focus (intro w;go_simp;try with_reducible rfl)
    try simp only [Act.put,aj]
    refine tkP 4 ?_ ?_ ?_;rotate_left;focus (intro w;go_simp;try with_reducible rfl)
    try simp only [Act.put,aj]
    refine wpAnyH_ready (rs:=[5]) (by kernel_rfl) (by simp) ?_
    refine AllReadyH.cons rfl (fun K hK=>?_) AllReadyH.nil
    (try simp only [aj])
    go_simp
    (go_at_call 58;(refine (aP _ _ _ _).mono ?_);rintro e y ⟨rfl,rfl⟩;rw [Hc.out])
    show K _ _
    refine hK.out _ _ (by exact hHeld) (fun hHeld=>?_)
    clear hK K
    try simp only [Act.put,aj]
    refine tkP 6 ?_ ?_ ?_;rotate_left;focus (intro w;go_simp;try with_reducible rfl)
    try simp only [Act.put,aj]
    refine tkP 7 ?_ ?_ ?_;rotate_left;focus (intro w;go_simp;try with_reducible rfl)
    try simp only [Act.put,aj]
    refine tkY 8 ?_ ?_ ?_;rotate_left;focus (intro w hSw;(try dsimp only at hSw);obtain ⟨bx0,sx⟩:=hSw;have c0_0:=(bx0 0 _ rfl).1;have c0_1:=(bx0 1 _ rfl).1;have c0_2:=(bx0 2 _ rfl).1;have s_ps:=Ext.keep sx ps;have s_p0:=Ext.keep sx p0;have s_p1:=Ext.keep sx p1;have s_p2:=Ext.keep sx p2;have s_p3:=Ext.keep sx p3;have s_p4:=Ext.keep sx p4;have s_p5:=Ext.keep sx p5;(try have s_s1:=Ext.keep sx s1);go_simp;try with_reducible rfl)
    try simp only [Act.put,aj]
    refine tkY 9 ?_ ?_ ?_;rotate_left;focus (intro w hSw;(try dsimp only at hSw);obtain ⟨bx0,sx⟩:=hSw;have c0_0:=(bx0 0 _ rfl).1;have c0_1:=(bx0 1 _ rfl).1;have c0_2:=(bx0 2 _ rfl).1;have s_ps:=Ext.keep sx ps;have s_p0:=Ext.keep sx p0;have s_p1:=Ext.keep sx p1;have s_p2:=Ext.keep sx p2;have s_p3:=Ext.keep sx p3;have s_p4:=Ext.keep sx p4;have s_p5:=Ext.keep sx p5;(try have s_s1:=Ext.keep sx s1);go_simp;try with_reducible rfl)
    try simp only [Act.put,aj]
    refine tkP 10 ?_ ?_ ?_;rotate_left;focus (intro w;go_simp;try with_reducible rfl)
    try simp only [Act.put,aj]
    refine tkY 11 ?_ ?_ ?_;rotate_left;focus (intro w hSw;(try dsimp only at hSw);obtain ⟨bx0,sx⟩:=hSw;have c0_0:=(bx0 0 _ rfl).1;have c0_1:=(bx0 1 _ rfl).1;have c0_2:=(bx0 2 _ rfl).1;have s_ps:=Ext.keep sx ps;have s_p0:=Ext.keep sx p0;have s_p1:=Ext.keep sx p1;have s_p2:=Ext.keep sx p2;have s_p3:=Ext.keep sx p3;have s_p4:=Ext.keep sx p4;have s_p5:=Ext.keep sx p5;(try have s_s1:=Ext.keep sx s1);go_simp;try with_reducible rfl)
    try simp only [Act.put,aj]
    refine tkP 12 ?_ ?_ ?_;rotate_left;focus (intro w;go_simp;try with_reducible rfl)
    try simp only [Act.put,aj]
    refine wpAnyH_ready (rs:=[13]) (by kernel_rfl) (by simp) ?_
    refine AllReadyH.cons rfl (fun K hK=>?_) AllReadyH.nil
    (try simp only [aj])
    go_simp
    (have hSw:=hHeld;(try dsimp only at hSw);obtain ⟨bx0,sx⟩:=hSw;have c0_0:=(bx0 0 _ rfl).1;have c0_1:=(bx0 1 _ rfl).1;have c0_2:=(bx0 2 _ rfl).1;have s_ps:=Ext.keep sx ps;have s_p0:=Ext.keep sx p0;have s_p1:=Ext.keep sx p1;have s_p2:=Ext.keep sx p2;have s_p3:=Ext.keep sx p3;have s_p4:=Ext.keep sx p4;have s_p5:=Ext.keep sx p5;(try have s_s1:=Ext.keep sx s1);have s_hV:=hV.ext fo.keeps sx;have s_hB:=bW.keeps _ _ _ _ _ _ (bV.ext sx) hB;have s_hLV:=hLV.ext bS.keeps sx;go_at_call 147;(refine (bQ lo hi lo' hi' _ sig _ b _ _ _ s_hV s_hB e2 HR.out (by omega) hC).mono ?_);rintro e y ⟨rfl,hb⟩;rw [Hu.out])
    show K _ _
    refine hK.out _ _ (by (have hh:=hHeld;(try dsimp only at hh);exact ⟨hh.1.ext hb,hh.2.trans hb⟩)) (fun hHeld=>?_)
    clear hK K
    try simp only [Act.put,aj]
    refine tkP 14 ?_ ?_ ?_;rotate_left;focus (intro w;go_simp;try with_reducible rfl)
    try simp only [Act.put,aj]
    refine tkP 15 ?_ ?_ ?_;rotate_left;focus (intro w;go_simp;try with_reducible rfl)
    try simp only [Act.put,aj]
    refine tkP 16 ?_ ?_ ?_;rotate_left;focus (intro w;go_simp;try with_reducible rfl)
    try simp only [Act.put,aj]
    refine tkN 17 ?_
    try simp only [Act.put,aj]
    refine tkN 18 ?_
    try simp only [Act.put,aj]
    refine tkN 19 ?_
    try simp only [Act.put,aj]
    refine tkN 20 ?_
    try simp only [Act.put,aj]
    refine tkN 21 ?_
    try simp only [Act.put,aj]
    refine tkN 22 ?_
    try simp only [Act.put,aj]
    refine tkN 23 ?_
    try simp only [Act.put,aj]
    refine tkN 24 ?_
    try simp only [Act.put,aj]
    refine tkN 25 ?_
    try simp only [Act.put,aj]
    refine tkN 26 ?_
    try simp only [Act.put,aj]
    refine tkP 27 ?_ ?_ ?_;rotate_left;focus (intro w;go_simp;try with_reducible rfl)
    try simp only [Act.put,aj]
    refine tkP 28 ?_ ?_ ?_;rotate_left;focus (intro w;go_simp;try with_reducible rfl)
    try simp only [Act.put,aj]
    refine tkN 29 ?_
    try simp only [Act.put,aj]
    refine tkN 30 ?_
    try simp only [Act.put,aj]
    refine tkN 31 ?_
    try simp only [Act.put,aj]
    refine tkN 32 ?_
    try simp only [Act.put,aj]
    refine tkP 33 ?_ ?_ ?_;rotate_left;focus (intro w;go_simp;try with_reducible rfl)
    try simp only [Act.put,aj]
    refine wpAnyH_done (by kernel_rfl) ?_ _
    all_goals go_wp2
    all_goals go_ret
    all_goals exact ⟨am HB.out.symm,xw⟩
   have Hu:=Lib.hid hu
   clear hu
   by_cases hl:((nl.length:Int))=((sig[m]).ports)
   rotate_left
   ·have el:(((nl.length:Int)) != ((sig[m]).ports))=true:=bne_iff_ne.2 hl
    have Hl:=Lib.hid hl
    clear hl
    have HB:=Lib.hid (hbad (by rw [HA.out];first|(rw [HK.out];simp [Hc.out,Hu.out,Hl.out];done)|simp [Hc.out,Hu.out,Hl.out]))
    clear hbad
    go_wp2_with fail
    refine wp_region_held_drew (S:=(fun w'=>dj w' wr.heap.size [.int .i64 (m:Int),.int .i64 np,.slice la nl.length lk]∧Ext wr w')) (by kernel_rfl) ?_ (fun hHeld=>?_)
    ·(refine ⟨?_,xw⟩;all_goals (intro j u hj;rcases j with _|_|_|_|_|_|_|_|j <;> simp at hj <;> (subst hj;simp)))
    refine tkP 0 ?_ ?_ ?_;rotate_left;focus (intro w;go_simp;try with_reducible rfl)
    try simp only [Act.put,aj]
    refine tkY 1 ?_ ?_ ?_;rotate_left;focus (intro w hSw;(try dsimp only at hSw);obtain ⟨bx0,sx⟩:=hSw;have c0_0:=(bx0 0 _ rfl).1;have c0_1:=(bx0 1 _ rfl).1;have c0_2:=(bx0 2 _ rfl).1;have s_ps:=Ext.keep sx ps;have s_p0:=Ext.keep sx p0;have s_p1:=Ext.keep sx p1;have s_p2:=Ext.keep sx p2;have s_p3:=Ext.keep sx p3;have s_p4:=Ext.keep sx p4;have s_p5:=Ext.keep sx p5;(try have s_s1:=Ext.keep sx s1);go_simp;try with_reducible rfl)
    try simp only [Act.put,aj]
    refine tkY 2 ?_ ?_ ?_;rotate_left;focus (intro w hSw;(try dsimp only at hSw);obtain ⟨bx0,sx⟩:=hSw;have c0_0:=(bx0 0 _ rfl).1;have c0_1:=(bx0 1 _ rfl).1;have c0_2:=(bx0 2 _ rfl).1;have s_ps:=Ext.keep sx ps;have s_p0:=Ext.keep sx p0;have s_p1:=Ext.keep sx p1;have s_p2:=Ext.keep sx p2;have s_p3:=Ext.keep sx p3;have s_p4:=Ext.keep sx p4;have s_p5:=Ext.keep sx p5;(try have s_s1:=Ext.keep sx s1);go_simp;try with_reducible rfl)
    try simp only [Act.put,aj]
    refine tkP 3 ?_ ?_ ?_;rotate_left;focus (intro w;go_simp;try with_reducible rfl)
    try simp only [Act.put,aj]
    refine tkP 4 ?_ ?_ ?_;rotate_left;focus (intro w;go_simp;try with_reducible rfl)
    try simp only [Act.put,aj]
    refine wpAnyH_ready (rs:=[5]) (by kernel_rfl) (by simp) ?_
    refine AllReadyH.cons rfl (fun K hK=>?_) AllReadyH.nil
    (try simp only [aj])
    go_simp
    (go_at_call 58;(refine (aP _ _ _ _).mono ?_);rintro e y ⟨rfl,rfl⟩;rw [Hc.out])
    show K _ _
    refine hK.out _ _ (by exact hHeld) (fun hHeld=>?_)
    clear hK K
    try simp only [Act.put,aj]
    refine tkP 6 ?_ ?_ ?_;rotate_left;focus (intro w;go_simp;try with_reducible rfl)
    try simp only [Act.put,aj]
    refine tkP 7 ?_ ?_ ?_;rotate_left;focus (intro w;go_simp;try with_reducible rfl)
    try simp only [Act.put,aj]
    refine tkY 8 ?_ ?_ ?_;rotate_left;focus (intro w hSw;(try dsimp only at hSw);obtain ⟨bx0,sx⟩:=hSw;have c0_0:=(bx0 0 _ rfl).1;have c0_1:=(bx0 1 _ rfl).1;have c0_2:=(bx0 2 _ rfl).1;have s_ps:=Ext.keep sx ps;have s_p0:=Ext.keep sx p0;have s_p1:=Ext.keep sx p1;have s_p2:=Ext.keep sx p2;have s_p3:=Ext.keep sx p3;have s_p4:=Ext.keep sx p4;have s_p5:=Ext.keep sx p5;(try have s_s1:=Ext.keep sx s1);go_simp;try with_reducible rfl)
    try simp only [Act.put,aj]
    refine tkY 9 ?_ ?_ ?_;rotate_left;focus (intro w hSw;(try dsimp only at hSw);obtain ⟨bx0,sx⟩:=hSw;have c0_0:=(bx0 0 _ rfl).1;have c0_1:=(bx0 1 _ rfl).1;have c0_2:=(bx0 2 _ rfl).1;have s_ps:=Ext.keep sx ps;have s_p0:=Ext.keep sx p0;have s_p1:=Ext.keep sx p1;have s_p2:=Ext.keep sx p2;have s_p3:=Ext.keep sx p3;have s_p4:=Ext.keep sx p4;have s_p5:=Ext.keep sx p5;(try have s_s1:=Ext.keep sx s1);go_simp;try with_reducible rfl)
    try simp only [Act.put,aj]
    refine tkP 10 ?_ ?_ ?_;rotate_left;focus (intro w;go_simp;try with_reducible rfl)
    try simp only [Act.put,aj]
    refine tkY 11 ?_ ?_ ?_;rotate_left;focus (intro w hSw;(try dsimp only at hSw);obtain ⟨bx0,sx⟩:=hSw;have c0_0:=(bx0 0 _ rfl).1;have c0_1:=(bx0 1 _ rfl).1;have c0_2:=(bx0 2 _ rfl).1;have s_ps:=Ext.keep sx ps;have s_p0:=Ext.keep sx p0;have s_p1:=Ext.keep sx p1;have s_p2:=Ext.keep sx p2;have s_p3:=Ext.keep sx p3;have s_p4:=Ext.keep sx p4;have s_p5:=Ext.keep sx p5;(try have s_s1:=Ext.keep sx s1);go_simp;try with_reducible rfl)
    try simp only [Act.put,aj]
    refine tkP 12 ?_ ?_ ?_;rotate_left;focus (intro w;go_simp;try with_reducible rfl)
    try simp only [Act.put,aj]
    refine wpAnyH_ready (rs:=[13]) (by kernel_rfl) (by simp) ?_
    refine AllReadyH.cons rfl (fun K hK=>?_) AllReadyH.nil
    (try simp only [aj])
    go_simp
    (have hSw:=hHeld;(try dsimp only at hSw);obtain ⟨bx0,sx⟩:=hSw;have c0_0:=(bx0 0 _ rfl).1;have c0_1:=(bx0 1 _ rfl).1;have c0_2:=(bx0 2 _ rfl).1;have s_ps:=Ext.keep sx ps;have s_p0:=Ext.keep sx p0;have s_p1:=Ext.keep sx p1;have s_p2:=Ext.keep sx p2;have s_p3:=Ext.keep sx p3;have s_p4:=Ext.keep sx p4;have s_p5:=Ext.keep sx p5;(try have s_s1:=Ext.keep sx s1);have s_hV:=hV.ext fo.keeps sx;have s_hB:=bW.keeps _ _ _ _ _ _ (bV.ext sx) hB;have s_hLV:=hLV.ext bS.keeps sx;go_at_call 147;(refine (bQ lo hi lo' hi' _ sig _ b _ _ _ s_hV s_hB e2 HR.out (by omega) hC).mono ?_);rintro e y ⟨rfl,hb⟩;rw [Hu.out])
    show K _ _
    refine hK.out _ _ (by (have hh:=hHeld;(try dsimp only at hh);exact ⟨hh.1.ext hb,hh.2.trans hb⟩)) (fun hHeld=>?_)
    clear hK K
    try simp only [Act.put,aj]
    refine tkP 14 ?_ ?_ ?_;rotate_left;focus (intro w;go_simp;try with_reducible rfl)
    try simp only [Act.put,aj]
    refine tkP 15 ?_ ?_ ?_;rotate_left;focus (intro w;go_simp;try with_reducible rfl)
    try simp only [Act.put,aj]
    refine tkP 16 ?_ ?_ ?_;rotate_left;focus (intro w;go_simp;try with_reducible rfl)
    try simp only [Act.put,aj]
    refine tkP 17 ?_ ?_ ?_;rotate_left;focus (intro w;go_simp;try with_reducible rfl)
    try simp only [Act.put,aj]
    refine tkY 18 ?_ ?_ ?_;rotate_left;focus (intro w hSw;(try dsimp only at hSw);obtain ⟨bx0,sx⟩:=hSw;have c0_0:=(bx0 0 _ rfl).1;have c0_1:=(bx0 1 _ rfl).1;have c0_2:=(bx0 2 _ rfl).1;have s_ps:=Ext.keep sx ps;have s_p0:=Ext.keep sx p0;have s_p1:=Ext.keep sx p1;have s_p2:=Ext.keep sx p2;have s_p3:=Ext.keep sx p3;have s_p4:=Ext.keep sx p4;have s_p5:=Ext.keep sx p5;(try have s_s1:=Ext.keep sx s1);go_simp;try with_reducible rfl)
    try simp only [Act.put,aj]
    refine tkP 19 ?_ ?_ ?_;rotate_left;focus (intro w;go_simp;try with_reducible rfl)
    try simp only [Act.put,aj]
    refine tkY 20 ?_ ?_ ?_;rotate_left;focus (intro w hSw;(try dsimp only at hSw);obtain ⟨bx0,sx⟩:=hSw;have c0_0:=(bx0 0 _ rfl).1;have c0_1:=(bx0 1 _ rfl).1;have c0_2:=(bx0 2 _ rfl).1;have s_ps:=Ext.keep sx ps;have s_p0:=Ext.keep sx p0;have s_p1:=Ext.keep sx p1;have s_p2:=Ext.keep sx p2;have s_p3:=Ext.keep sx p3;have s_p4:=Ext.keep sx p4;have s_p5:=Ext.keep sx p5;(try have s_s1:=Ext.keep sx s1);go_simp;try with_reducible rfl)
    try simp only [Act.put,aj]
    refine tkP 21 ?_ ?_ ?_;rotate_left;focus (intro w;go_simp;try with_reducible rfl)
    try simp only [Act.put,aj]
    refine tkY 22 ?_ ?_ ?_;rotate_left;focus (intro w hSw;(try dsimp only at hSw);obtain ⟨bx0,sx⟩:=hSw;have c0_0:=(bx0 0 _ rfl).1;have c0_1:=(bx0 1 _ rfl).1;have c0_2:=(bx0 2 _ rfl).1;have s_ps:=Ext.keep sx ps;have s_p0:=Ext.keep sx p0;have s_p1:=Ext.keep sx p1;have s_p2:=Ext.keep sx p2;have s_p3:=Ext.keep sx p3;have s_p4:=Ext.keep sx p4;have s_p5:=Ext.keep sx p5;(try have s_s1:=Ext.keep sx s1);go_simp;try with_reducible rfl)
    try simp only [Act.put,aj]
    refine tkP 23 ?_ ?_ ?_;rotate_left;focus (intro w;go_simp;try with_reducible rfl)
    try simp only [Act.put,aj]
    refine tkP 24 ?_ ?_ ?_;rotate_left;focus (intro w;go_simp;try with_reducible rfl)
    try simp only [Act.put,aj]
    refine tkY 25 ?_ ?_ ?_;rotate_left;focus (intro w hSw;(try dsimp only at hSw);obtain ⟨bx0,sx⟩:=hSw;have c0_0:=(bx0 0 _ rfl).1;have c0_1:=(bx0 1 _ rfl).1;have c0_2:=(bx0 2 _ rfl).1;have s_ps:=Ext.keep sx ps;have s_p0:=Ext.keep sx p0;have s_p1:=Ext.keep sx p1;have s_p2:=Ext.keep sx p2;have s_p3:=Ext.keep sx p3;have s_p4:=Ext.keep sx p4;have s_p5:=Ext.keep sx p5;(try have s_s1:=Ext.keep sx s1);go_simp;try with_reducible rfl)
    try simp only [Act.put,aj]
    refine tkP 26 ?_ ?_ ?_;rotate_left;focus (intro w;go_simp;try with_reducible rfl)
    try simp only [Act.put,aj]
    refine tkP 27 ?_ ?_ ?_;rotate_left;focus (intro w;go_simp;try with_reducible rfl)
    try simp only [Act.put,aj]
    refine tkP 28 ?_ ?_ ?_;rotate_left;focus (intro w;go_simp;try with_reducible rfl)
    try simp only [Act.put,aj]
    refine tkN 29 ?_
    try simp only [Act.put,aj]
    refine tkN 30 ?_
    try simp only [Act.put,aj]
    refine tkN 31 ?_
    try simp only [Act.put,aj]
    refine tkN 32 ?_
    try simp only [Act.put,aj]
    refine tkP 33 ?_ ?_ ?_;rotate_left;focus (intro w;go_simp;try with_reducible rfl)
    try simp only [Act.put,aj]
    refine wpAnyH_done (by kernel_rfl) ?_ _
    all_goals go_wp2
    all_goals go_ret
    all_goals exact ⟨am HB.out.symm,xw⟩
   have el:(((nl.length:Int)) != ((sig[m]).ports))=false:=bne_eq_false_iff_eq.2 hl
   have Hl:=Lib.hid hl
   clear hl
   cases hk:nl.any (fun l=>!(dJ b l))
   rotate_left
   ·have Hk:=Lib.hid hk
    clear hk
    have HB:=Lib.hid (hbad (by rw [HA.out];first|(rw [HK.out];simp [Hc.out,Hu.out,Hl.out,Hk.out];done)|simp [Hc.out,Hu.out,Hl.out,Hk.out]))
    clear hbad
    go_wp2_with fail
    refine wp_region_held_drew (S:=(fun w'=>dj w' wr.heap.size [.int .i64 (m:Int),.int .i64 np,.slice la nl.length lk]∧Ext wr w')) (by kernel_rfl) ?_ (fun hHeld=>?_)
    ·(refine ⟨?_,xw⟩;all_goals (intro j u hj;rcases j with _|_|_|_|_|_|_|_|j <;> simp at hj <;> (subst hj;simp)))
    refine tkP 0 ?_ ?_ ?_;rotate_left;focus (intro w;go_simp;try with_reducible rfl)
    try simp only [Act.put,aj]
    refine tkY 1 ?_ ?_ ?_;rotate_left;focus (intro w hSw;(try dsimp only at hSw);obtain ⟨bx0,sx⟩:=hSw;have c0_0:=(bx0 0 _ rfl).1;have c0_1:=(bx0 1 _ rfl).1;have c0_2:=(bx0 2 _ rfl).1;have s_ps:=Ext.keep sx ps;have s_p0:=Ext.keep sx p0;have s_p1:=Ext.keep sx p1;have s_p2:=Ext.keep sx p2;have s_p3:=Ext.keep sx p3;have s_p4:=Ext.keep sx p4;have s_p5:=Ext.keep sx p5;(try have s_s1:=Ext.keep sx s1);go_simp;try with_reducible rfl)
    try simp only [Act.put,aj]
    refine tkY 2 ?_ ?_ ?_;rotate_left;focus (intro w hSw;(try dsimp only at hSw);obtain ⟨bx0,sx⟩:=hSw;have c0_0:=(bx0 0 _ rfl).1;have c0_1:=(bx0 1 _ rfl).1;have c0_2:=(bx0 2 _ rfl).1;have s_ps:=Ext.keep sx ps;have s_p0:=Ext.keep sx p0;have s_p1:=Ext.keep sx p1;have s_p2:=Ext.keep sx p2;have s_p3:=Ext.keep sx p3;have s_p4:=Ext.keep sx p4;have s_p5:=Ext.keep sx p5;(try have s_s1:=Ext.keep sx s1);go_simp;try with_reducible rfl)
    try simp only [Act.put,aj]
    refine tkP 3 ?_ ?_ ?_;rotate_left;focus (intro w;go_simp;try with_reducible rfl)
    try simp only [Act.put,aj]
    refine tkP 4 ?_ ?_ ?_;rotate_left;focus (intro w;go_simp;try with_reducible rfl)
    try simp only [Act.put,aj]
    refine wpAnyH_ready (rs:=[5]) (by kernel_rfl) (by simp) ?_
    refine AllReadyH.cons rfl (fun K hK=>?_) AllReadyH.nil
    (try simp only [aj])
    go_simp
    (go_at_call 58;(refine (aP _ _ _ _).mono ?_);rintro e y ⟨rfl,rfl⟩;rw [Hc.out])
    show K _ _
    refine hK.out _ _ (by exact hHeld) (fun hHeld=>?_)
    clear hK K
    try simp only [Act.put,aj]
    refine tkP 6 ?_ ?_ ?_;rotate_left;focus (intro w;go_simp;try with_reducible rfl)
    try simp only [Act.put,aj]
    refine tkP 7 ?_ ?_ ?_;rotate_left;focus (intro w;go_simp;try with_reducible rfl)
    try simp only [Act.put,aj]
    refine tkY 8 ?_ ?_ ?_;rotate_left;focus (intro w hSw;(try dsimp only at hSw);obtain ⟨bx0,sx⟩:=hSw;have c0_0:=(bx0 0 _ rfl).1;have c0_1:=(bx0 1 _ rfl).1;have c0_2:=(bx0 2 _ rfl).1;have s_ps:=Ext.keep sx ps;have s_p0:=Ext.keep sx p0;have s_p1:=Ext.keep sx p1;have s_p2:=Ext.keep sx p2;have s_p3:=Ext.keep sx p3;have s_p4:=Ext.keep sx p4;have s_p5:=Ext.keep sx p5;(try have s_s1:=Ext.keep sx s1);go_simp;try with_reducible rfl)
    try simp only [Act.put,aj]
    refine tkY 9 ?_ ?_ ?_;rotate_left;focus (intro w hSw;(try dsimp only at hSw);obtain ⟨bx0,sx⟩:=hSw;have c0_0:=(bx0 0 _ rfl).1;have c0_1:=(bx0 1 _ rfl).1;have c0_2:=(bx0 2 _ rfl).1;have s_ps:=Ext.keep sx ps;have s_p0:=Ext.keep sx p0;have s_p1:=Ext.keep sx p1;have s_p2:=Ext.keep sx p2;have s_p3:=Ext.keep sx p3;have s_p4:=Ext.keep sx p4;have s_p5:=Ext.keep sx p5;(try have s_s1:=Ext.keep sx s1);go_simp;try with_reducible rfl)
    try simp only [Act.put,aj]
    refine tkP 10 ?_ ?_ ?_;rotate_left;focus (intro w;go_simp;try with_reducible rfl)
    try simp only [Act.put,aj]
    refine tkY 11 ?_ ?_ ?_;rotate_left;focus (intro w hSw;(try dsimp only at hSw);obtain ⟨bx0,sx⟩:=hSw;have c0_0:=(bx0 0 _ rfl).1;have c0_1:=(bx0 1 _ rfl).1;have c0_2:=(bx0 2 _ rfl).1;have s_ps:=Ext.keep sx ps;have s_p0:=Ext.keep sx p0;have s_p1:=Ext.keep sx p1;have s_p2:=Ext.keep sx p2;have s_p3:=Ext.keep sx p3;have s_p4:=Ext.keep sx p4;have s_p5:=Ext.keep sx p5;(try have s_s1:=Ext.keep sx s1);go_simp;try with_reducible rfl)
    try simp only [Act.put,aj]
    refine tkP 12 ?_ ?_ ?_;rotate_left;focus (intro w;go_simp;try with_reducible rfl)
    try simp only [Act.put,aj]
    refine wpAnyH_ready (rs:=[13]) (by kernel_rfl) (by simp) ?_
    refine AllReadyH.cons rfl (fun K hK=>?_) AllReadyH.nil
    (try simp only [aj])
    go_simp
    (have hSw:=hHeld;(try dsimp only at hSw);obtain ⟨bx0,sx⟩:=hSw;have c0_0:=(bx0 0 _ rfl).1;have c0_1:=(bx0 1 _ rfl).1;have c0_2:=(bx0 2 _ rfl).1;have s_ps:=Ext.keep sx ps;have s_p0:=Ext.keep sx p0;have s_p1:=Ext.keep sx p1;have s_p2:=Ext.keep sx p2;have s_p3:=Ext.keep sx p3;have s_p4:=Ext.keep sx p4;have s_p5:=Ext.keep sx p5;(try have s_s1:=Ext.keep sx s1);have s_hV:=hV.ext fo.keeps sx;have s_hB:=bW.keeps _ _ _ _ _ _ (bV.ext sx) hB;have s_hLV:=hLV.ext bS.keeps sx;go_at_call 147;(refine (bQ lo hi lo' hi' _ sig _ b _ _ _ s_hV s_hB e2 HR.out (by omega) hC).mono ?_);rintro e y ⟨rfl,hb⟩;rw [Hu.out])
    show K _ _
    refine hK.out _ _ (by (have hh:=hHeld;(try dsimp only at hh);exact ⟨hh.1.ext hb,hh.2.trans hb⟩)) (fun hHeld=>?_)
    clear hK K
    try simp only [Act.put,aj]
    refine tkP 14 ?_ ?_ ?_;rotate_left;focus (intro w;go_simp;try with_reducible rfl)
    try simp only [Act.put,aj]
    refine tkP 15 ?_ ?_ ?_;rotate_left;focus (intro w;go_simp;try with_reducible rfl)
    try simp only [Act.put,aj]
    refine tkP 16 ?_ ?_ ?_;rotate_left;focus (intro w;go_simp;try with_reducible rfl)
    try simp only [Act.put,aj]
    refine tkP 17 ?_ ?_ ?_;rotate_left;focus (intro w;go_simp;try with_reducible rfl)
    try simp only [Act.put,aj]
    refine tkY 18 ?_ ?_ ?_;rotate_left;focus (intro w hSw;(try dsimp only at hSw);obtain ⟨bx0,sx⟩:=hSw;have c0_0:=(bx0 0 _ rfl).1;have c0_1:=(bx0 1 _ rfl).1;have c0_2:=(bx0 2 _ rfl).1;have s_ps:=Ext.keep sx ps;have s_p0:=Ext.keep sx p0;have s_p1:=Ext.keep sx p1;have s_p2:=Ext.keep sx p2;have s_p3:=Ext.keep sx p3;have s_p4:=Ext.keep sx p4;have s_p5:=Ext.keep sx p5;(try have s_s1:=Ext.keep sx s1);go_simp;try with_reducible rfl)
    try simp only [Act.put,aj]
    refine tkP 19 ?_ ?_ ?_;rotate_left;focus (intro w;go_simp;try with_reducible rfl)
    try simp only [Act.put,aj]
    refine tkY 20 ?_ ?_ ?_;rotate_left;focus (intro w hSw;(try dsimp only at hSw);obtain ⟨bx0,sx⟩:=hSw;have c0_0:=(bx0 0 _ rfl).1;have c0_1:=(bx0 1 _ rfl).1;have c0_2:=(bx0 2 _ rfl).1;have s_ps:=Ext.keep sx ps;have s_p0:=Ext.keep sx p0;have s_p1:=Ext.keep sx p1;have s_p2:=Ext.keep sx p2;have s_p3:=Ext.keep sx p3;have s_p4:=Ext.keep sx p4;have s_p5:=Ext.keep sx p5;(try have s_s1:=Ext.keep sx s1);go_simp;try with_reducible rfl)
    try simp only [Act.put,aj]
    refine tkP 21 ?_ ?_ ?_;rotate_left;focus (intro w;go_simp;try with_reducible rfl)
    try simp only [Act.put,aj]
    refine tkY 22 ?_ ?_ ?_;rotate_left;focus (intro w hSw;(try dsimp only at hSw);obtain ⟨bx0,sx⟩:=hSw;have c0_0:=(bx0 0 _ rfl).1;have c0_1:=(bx0 1 _ rfl).1;have c0_2:=(bx0 2 _ rfl).1;have s_ps:=Ext.keep sx ps;have s_p0:=Ext.keep sx p0;have s_p1:=Ext.keep sx p1;have s_p2:=Ext.keep sx p2;have s_p3:=Ext.keep sx p3;have s_p4:=Ext.keep sx p4;have s_p5:=Ext.keep sx p5;(try have s_s1:=Ext.keep sx s1);go_simp;try with_reducible rfl)
    try simp only [Act.put,aj]
    refine tkP 23 ?_ ?_ ?_;rotate_left;focus (intro w;go_simp;try with_reducible rfl)
    try simp only [Act.put,aj]
    refine tkP 24 ?_ ?_ ?_;rotate_left;focus (intro w;go_simp;try with_reducible rfl)
    try simp only [Act.put,aj]
    refine tkY 25 ?_ ?_ ?_;rotate_left;focus (intro w hSw;(try dsimp only at hSw);obtain ⟨bx0,sx⟩:=hSw;have c0_0:=(bx0 0 _ rfl).1;have c0_1:=(bx0 1 _ rfl).1;have c0_2:=(bx0 2 _ rfl).1;have s_ps:=Ext.keep sx ps;have s_p0:=Ext.keep sx p0;have s_p1:=Ext.keep sx p1;have s_p2:=Ext.keep sx p2;have s_p3:=Ext.keep sx p3;have s_p4:=Ext.keep sx p4;have s_p5:=Ext.keep sx p5;(try have s_s1:=Ext.keep sx s1);go_simp;try with_reducible rfl)
    try simp only [Act.put,aj]
    refine tkP 26 ?_ ?_ ?_;rotate_left;focus (intro w;go_simp;try with_reducible rfl)
    try simp only [Act.put,aj]
    refine tkP 27 ?_ ?_ ?_;rotate_left;focus (intro w;go_simp;try with_reducible rfl)
    try simp only [Act.put,aj]
    refine tkP 28 ?_ ?_ ?_;rotate_left;focus (intro w;go_simp;try with_reducible rfl)
    try simp only [Act.put,aj]
    refine tkP 29 ?_ ?_ ?_;rotate_left;focus (intro w;go_simp;try with_reducible rfl)
    try simp only [Act.put,aj]
    refine tkY 30 ?_ ?_ ?_;rotate_left;focus (intro w hSw;(try dsimp only at hSw);obtain ⟨bx0,sx⟩:=hSw;have c0_0:=(bx0 0 _ rfl).1;have c0_1:=(bx0 1 _ rfl).1;have c0_2:=(bx0 2 _ rfl).1;have s_ps:=Ext.keep sx ps;have s_p0:=Ext.keep sx p0;have s_p1:=Ext.keep sx p1;have s_p2:=Ext.keep sx p2;have s_p3:=Ext.keep sx p3;have s_p4:=Ext.keep sx p4;have s_p5:=Ext.keep sx p5;(try have s_s1:=Ext.keep sx s1);go_simp;try with_reducible rfl)
    try simp only [Act.put,aj]
    refine tkP 31 ?_ ?_ ?_;rotate_left;focus (intro w;go_simp;try with_reducible rfl)
    try simp only [Act.put,aj]
    refine wpAnyH_ready (rs:=[32]) (by kernel_rfl) (by simp) ?_
    refine AllReadyH.cons rfl (fun K hK=>?_) AllReadyH.nil
    (try simp only [aj])
    go_simp
    (have hSw:=hHeld;(try dsimp only at hSw);obtain ⟨bx0,sx⟩:=hSw;have c0_0:=(bx0 0 _ rfl).1;have c0_1:=(bx0 1 _ rfl).1;have c0_2:=(bx0 2 _ rfl).1;have s_ps:=Ext.keep sx ps;have s_p0:=Ext.keep sx p0;have s_p1:=Ext.keep sx p1;have s_p2:=Ext.keep sx p2;have s_p3:=Ext.keep sx p3;have s_p4:=Ext.keep sx p4;have s_p5:=Ext.keep sx p5;(try have s_s1:=Ext.keep sx s1);have s_hV:=hV.ext fo.keeps sx;have s_hB:=bW.keeps _ _ _ _ _ _ (bV.ext sx) hB;have s_hLV:=hLV.ext bS.keeps sx;go_at_call 108;(refine (bH lo' hi' (fun l=>!(dJ b l)) 148 #[.pointer (some ⟨W0.heap.size,0,none⟩)] _ _ _ s_hLV eg1 (fun j hj cs W hW hP=>ip lo' hi' W0.heap.size _ b _ W (bW.keeps _ _ _ _ _ _ (bV.ext hW) s_hB) HE.out hol (fun j u hj=>hW.keep (sx.keep (hX1.keep (HBB.out j u hj)))))).mono ?_);rintro e y ⟨rfl,hb⟩;rw [Hk.out])
    show K _ _
    refine hK.out _ _ (by (have hh:=hHeld;(try dsimp only at hh);exact ⟨hh.1.ext hb,hh.2.trans hb⟩)) (fun hHeld=>?_)
    clear hK K
    try simp only [Act.put,aj]
    refine tkP 33 ?_ ?_ ?_;rotate_left;focus (intro w;go_simp;try with_reducible rfl)
    try simp only [Act.put,aj]
    refine wpAnyH_done (by kernel_rfl) ?_ _
    all_goals go_wp2
    all_goals go_ret
    all_goals exact ⟨am HB.out.symm,xw⟩
   have Hk:=Lib.hid hk
   clear hk
   have HG:=Lib.hid (show ey sig b i=true by rw [HA.out,HK.out];simp [Hc.out,Hu.out,Hl.out,Hk.out])
   clear hbad
   go_wp2_with fail
   refine wp_region_held_drew (S:=(fun w'=>dj w' wr.heap.size [.int .i64 (m:Int),.int .i64 np,.slice la nl.length lk]∧Ext wr w')) (by kernel_rfl) ?_ (fun hHeld=>?_)
   ·(refine ⟨?_,xw⟩;all_goals (intro j u hj;rcases j with _|_|_|_|_|_|_|_|j <;> simp at hj <;> (subst hj;simp)))
   refine tkP 0 ?_ ?_ ?_;rotate_left;focus (intro w;go_simp;try with_reducible rfl)
   try simp only [Act.put,aj]
   refine tkY 1 ?_ ?_ ?_;rotate_left;focus (intro w hSw;(try dsimp only at hSw);obtain ⟨bx0,sx⟩:=hSw;have c0_0:=(bx0 0 _ rfl).1;have c0_1:=(bx0 1 _ rfl).1;have c0_2:=(bx0 2 _ rfl).1;have s_ps:=Ext.keep sx ps;have s_p0:=Ext.keep sx p0;have s_p1:=Ext.keep sx p1;have s_p2:=Ext.keep sx p2;have s_p3:=Ext.keep sx p3;have s_p4:=Ext.keep sx p4;have s_p5:=Ext.keep sx p5;(try have s_s1:=Ext.keep sx s1);go_simp;try with_reducible rfl)
   try simp only [Act.put,aj]
   refine tkY 2 ?_ ?_ ?_;rotate_left;focus (intro w hSw;(try dsimp only at hSw);obtain ⟨bx0,sx⟩:=hSw;have c0_0:=(bx0 0 _ rfl).1;have c0_1:=(bx0 1 _ rfl).1;have c0_2:=(bx0 2 _ rfl).1;have s_ps:=Ext.keep sx ps;have s_p0:=Ext.keep sx p0;have s_p1:=Ext.keep sx p1;have s_p2:=Ext.keep sx p2;have s_p3:=Ext.keep sx p3;have s_p4:=Ext.keep sx p4;have s_p5:=Ext.keep sx p5;(try have s_s1:=Ext.keep sx s1);go_simp;try with_reducible rfl)
   try simp only [Act.put,aj]
   refine tkP 3 ?_ ?_ ?_;rotate_left;focus (intro w;go_simp;try with_reducible rfl)
   try simp only [Act.put,aj]
   refine tkP 4 ?_ ?_ ?_;rotate_left;focus (intro w;go_simp;try with_reducible rfl)
   try simp only [Act.put,aj]
   refine wpAnyH_ready (rs:=[5]) (by kernel_rfl) (by simp) ?_
   refine AllReadyH.cons rfl (fun K hK=>?_) AllReadyH.nil
   (try simp only [aj])
   go_simp
   (go_at_call 58;(refine (aP _ _ _ _).mono ?_);rintro e y ⟨rfl,rfl⟩;rw [Hc.out])
   show K _ _
   refine hK.out _ _ (by exact hHeld) (fun hHeld=>?_)
   clear hK K
   try simp only [Act.put,aj]
   refine tkP 6 ?_ ?_ ?_;rotate_left;focus (intro w;go_simp;try with_reducible rfl)
   try simp only [Act.put,aj]
   refine tkP 7 ?_ ?_ ?_;rotate_left;focus (intro w;go_simp;try with_reducible rfl)
   try simp only [Act.put,aj]
   refine tkY 8 ?_ ?_ ?_;rotate_left;focus (intro w hSw;(try dsimp only at hSw);obtain ⟨bx0,sx⟩:=hSw;have c0_0:=(bx0 0 _ rfl).1;have c0_1:=(bx0 1 _ rfl).1;have c0_2:=(bx0 2 _ rfl).1;have s_ps:=Ext.keep sx ps;have s_p0:=Ext.keep sx p0;have s_p1:=Ext.keep sx p1;have s_p2:=Ext.keep sx p2;have s_p3:=Ext.keep sx p3;have s_p4:=Ext.keep sx p4;have s_p5:=Ext.keep sx p5;(try have s_s1:=Ext.keep sx s1);go_simp;try with_reducible rfl)
   try simp only [Act.put,aj]
   refine tkY 9 ?_ ?_ ?_;rotate_left;focus (intro w hSw;(try dsimp only at hSw);obtain ⟨bx0,sx⟩:=hSw;have c0_0:=(bx0 0 _ rfl).1;have c0_1:=(bx0 1 _ rfl).1;have c0_2:=(bx0 2 _ rfl).1;have s_ps:=Ext.keep sx ps;have s_p0:=Ext.keep sx p0;have s_p1:=Ext.keep sx p1;have s_p2:=Ext.keep sx p2;have s_p3:=Ext.keep sx p3;have s_p4:=Ext.keep sx p4;have s_p5:=Ext.keep sx p5;(try have s_s1:=Ext.keep sx s1);go_simp;try with_reducible rfl)
   try simp only [Act.put,aj]
   refine tkP 10 ?_ ?_ ?_;rotate_left;focus (intro w;go_simp;try with_reducible rfl)
   try simp only [Act.put,aj]
   refine tkY 11 ?_ ?_ ?_;rotate_left;focus (intro w hSw;(try dsimp only at hSw);obtain ⟨bx0,sx⟩:=hSw;have c0_0:=(bx0 0 _ rfl).1;have c0_1:=(bx0 1 _ rfl).1;have c0_2:=(bx0 2 _ rfl).1;have s_ps:=Ext.keep sx ps;have s_p0:=Ext.keep sx p0;have s_p1:=Ext.keep sx p1;have s_p2:=Ext.keep sx p2;have s_p3:=Ext.keep sx p3;have s_p4:=Ext.keep sx p4;have s_p5:=Ext.keep sx p5;(try have s_s1:=Ext.keep sx s1);go_simp;try with_reducible rfl)
   try simp only [Act.put,aj]
   refine tkP 12 ?_ ?_ ?_;rotate_left;focus (intro w;go_simp;try with_reducible rfl)
   try simp only [Act.put,aj]
   refine wpAnyH_ready (rs:=[13]) (by kernel_rfl) (by simp) ?_
   refine AllReadyH.cons rfl (fun K hK=>?_) AllReadyH.nil
   (try simp only [aj])
   go_simp
   (have hSw:=hHeld;(try dsimp only at hSw);obtain ⟨bx0,sx⟩:=hSw;have c0_0:=(bx0 0 _ rfl).1;have c0_1:=(bx0 1 _ rfl).1;have c0_2:=(bx0 2 _ rfl).1;have s_ps:=Ext.keep sx ps;have s_p0:=Ext.keep sx p0;have s_p1:=Ext.keep sx p1;have s_p2:=Ext.keep sx p2;have s_p3:=Ext.keep sx p3;have s_p4:=Ext.keep sx p4;have s_p5:=Ext.keep sx p5;(try have s_s1:=Ext.keep sx s1);have s_hV:=hV.ext fo.keeps sx;have s_hB:=bW.keeps _ _ _ _ _ _ (bV.ext sx) hB;have s_hLV:=hLV.ext bS.keeps sx;go_at_call 147;(refine (bQ lo hi lo' hi' _ sig _ b _ _ _ s_hV s_hB e2 HR.out (by omega) hC).mono ?_);rintro e y ⟨rfl,hb⟩;rw [Hu.out])
   show K _ _
   refine hK.out _ _ (by (have hh:=hHeld;(try dsimp only at hh);exact ⟨hh.1.ext hb,hh.2.trans hb⟩)) (fun hHeld=>?_)
   clear hK K
   try simp only [Act.put,aj]
   refine tkP 14 ?_ ?_ ?_;rotate_left;focus (intro w;go_simp;try with_reducible rfl)
   try simp only [Act.put,aj]
   refine tkP 15 ?_ ?_ ?_;rotate_left;focus (intro w;go_simp;try with_reducible rfl)
   try simp only [Act.put,aj]
   refine tkP 16 ?_ ?_ ?_;rotate_left;focus (intro w;go_simp;try with_reducible rfl)
   try simp only [Act.put,aj]
   refine tkP 17 ?_ ?_ ?_;rotate_left;focus (intro w;go_simp;try with_reducible rfl)
   try simp only [Act.put,aj]
   refine tkY 18 ?_ ?_ ?_;rotate_left;focus (intro w hSw;(try dsimp only at hSw);obtain ⟨bx0,sx⟩:=hSw;have c0_0:=(bx0 0 _ rfl).1;have c0_1:=(bx0 1 _ rfl).1;have c0_2:=(bx0 2 _ rfl).1;have s_ps:=Ext.keep sx ps;have s_p0:=Ext.keep sx p0;have s_p1:=Ext.keep sx p1;have s_p2:=Ext.keep sx p2;have s_p3:=Ext.keep sx p3;have s_p4:=Ext.keep sx p4;have s_p5:=Ext.keep sx p5;(try have s_s1:=Ext.keep sx s1);go_simp;try with_reducible rfl)
   try simp only [Act.put,aj]
   refine tkP 19 ?_ ?_ ?_;rotate_left;focus (intro w;go_simp;try with_reducible rfl)
   try simp only [Act.put,aj]
   refine tkY 20 ?_ ?_ ?_;rotate_left;focus (intro w hSw;(try dsimp only at hSw);obtain ⟨bx0,sx⟩:=hSw;have c0_0:=(bx0 0 _ rfl).1;have c0_1:=(bx0 1 _ rfl).1;have c0_2:=(bx0 2 _ rfl).1;have s_ps:=Ext.keep sx ps;have s_p0:=Ext.keep sx p0;have s_p1:=Ext.keep sx p1;have s_p2:=Ext.keep sx p2;have s_p3:=Ext.keep sx p3;have s_p4:=Ext.keep sx p4;have s_p5:=Ext.keep sx p5;(try have s_s1:=Ext.keep sx s1);go_simp;try with_reducible rfl)
   try simp only [Act.put,aj]
   refine tkP 21 ?_ ?_ ?_;rotate_left;focus (intro w;go_simp;try with_reducible rfl)
   try simp only [Act.put,aj]
   refine tkY 22 ?_ ?_ ?_;rotate_left;focus (intro w hSw;(try dsimp only at hSw);obtain ⟨bx0,sx⟩:=hSw;have c0_0:=(bx0 0 _ rfl).1;have c0_1:=(bx0 1 _ rfl).1;have c0_2:=(bx0 2 _ rfl).1;have s_ps:=Ext.keep sx ps;have s_p0:=Ext.keep sx p0;have s_p1:=Ext.keep sx p1;have s_p2:=Ext.keep sx p2;have s_p3:=Ext.keep sx p3;have s_p4:=Ext.keep sx p4;have s_p5:=Ext.keep sx p5;(try have s_s1:=Ext.keep sx s1);go_simp;try with_reducible rfl)
   try simp only [Act.put,aj]
   refine tkP 23 ?_ ?_ ?_;rotate_left;focus (intro w;go_simp;try with_reducible rfl)
   try simp only [Act.put,aj]
   refine tkP 24 ?_ ?_ ?_;rotate_left;focus (intro w;go_simp;try with_reducible rfl)
   try simp only [Act.put,aj]
   refine tkY 25 ?_ ?_ ?_;rotate_left;focus (intro w hSw;(try dsimp only at hSw);obtain ⟨bx0,sx⟩:=hSw;have c0_0:=(bx0 0 _ rfl).1;have c0_1:=(bx0 1 _ rfl).1;have c0_2:=(bx0 2 _ rfl).1;have s_ps:=Ext.keep sx ps;have s_p0:=Ext.keep sx p0;have s_p1:=Ext.keep sx p1;have s_p2:=Ext.keep sx p2;have s_p3:=Ext.keep sx p3;have s_p4:=Ext.keep sx p4;have s_p5:=Ext.keep sx p5;(try have s_s1:=Ext.keep sx s1);go_simp;try with_reducible rfl)
   try simp only [Act.put,aj]
   refine tkP 26 ?_ ?_ ?_;rotate_left;focus (intro w;go_simp;try with_reducible rfl)
   try simp only [Act.put,aj]
   refine tkP 27 ?_ ?_ ?_;rotate_left;focus (intro w;go_simp;try with_reducible rfl)
   try simp only [Act.put,aj]
   refine tkP 28 ?_ ?_ ?_;rotate_left;focus (intro w;go_simp;try with_reducible rfl)
   try simp only [Act.put,aj]
   refine tkP 29 ?_ ?_ ?_;rotate_left;focus (intro w;go_simp;try with_reducible rfl)
   try simp only [Act.put,aj]
   refine tkY 30 ?_ ?_ ?_;rotate_left;focus (intro w hSw;(try dsimp only at hSw);obtain ⟨bx0,sx⟩:=hSw;have c0_0:=(bx0 0 _ rfl).1;have c0_1:=(bx0 1 _ rfl).1;have c0_2:=(bx0 2 _ rfl).1;have s_ps:=Ext.keep sx ps;have s_p0:=Ext.keep sx p0;have s_p1:=Ext.keep sx p1;have s_p2:=Ext.keep sx p2;have s_p3:=Ext.keep sx p3;have s_p4:=Ext.keep sx p4;have s_p5:=Ext.keep sx p5;(try have s_s1:=Ext.keep sx s1);go_simp;try with_reducible rfl)
   try simp only [Act.put,aj]
   refine tkP 31 ?_ ?_ ?_;rotate_left;focus (intro w;go_simp;try with_reducible rfl)
   try simp only [Act.put,aj]
   refine wpAnyH_ready (rs:=[32]) (by kernel_rfl) (by simp) ?_
   refine AllReadyH.cons rfl (fun K hK=>?_) AllReadyH.nil
   (try simp only [aj])
   go_simp
   (have hSw:=hHeld;(try dsimp only at hSw);obtain ⟨bx0,sx⟩:=hSw;have c0_0:=(bx0 0 _ rfl).1;have c0_1:=(bx0 1 _ rfl).1;have c0_2:=(bx0 2 _ rfl).1;have s_ps:=Ext.keep sx ps;have s_p0:=Ext.keep sx p0;have s_p1:=Ext.keep sx p1;have s_p2:=Ext.keep sx p2;have s_p3:=Ext.keep sx p3;have s_p4:=Ext.keep sx p4;have s_p5:=Ext.keep sx p5;(try have s_s1:=Ext.keep sx s1);have s_hV:=hV.ext fo.keeps sx;have s_hB:=bW.keeps _ _ _ _ _ _ (bV.ext sx) hB;have s_hLV:=hLV.ext bS.keeps sx;go_at_call 108;(refine (bH lo' hi' (fun l=>!(dJ b l)) 148 #[.pointer (some ⟨W0.heap.size,0,none⟩)] _ _ _ s_hLV eg1 (fun j hj cs W hW hP=>ip lo' hi' W0.heap.size _ b _ W (bW.keeps _ _ _ _ _ _ (bV.ext hW) s_hB) HE.out hol (fun j u hj=>hW.keep (sx.keep (hX1.keep (HBB.out j u hj)))))).mono ?_);rintro e y ⟨rfl,hb⟩;rw [Hk.out])
   show K _ _
   refine hK.out _ _ (by (have hh:=hHeld;(try dsimp only at hh);exact ⟨hh.1.ext hb,hh.2.trans hb⟩)) (fun hHeld=>?_)
   clear hK K
   try simp only [Act.put,aj]
   refine tkP 33 ?_ ?_ ?_;rotate_left;focus (intro w;go_simp;try with_reducible rfl)
   try simp only [Act.put,aj]
   refine wpAnyH_done (by kernel_rfl) ?_ _
   all_goals go_wp2
   all_goals go_roundw
   case rel=>exact ⟨i+1,rfl,by omega,by rw [HS.out,HOK.out,HG.out];rfl,xw⟩
   all_goals (simp only [intOf];omega)
  ·have e:i=b.nodes.length:=by omega
   subst e
   have hC:=nM HOK.out
   replace hS:=hS.ext bS.keeps hx
   replace hI:=hI.ext WrP.keeps hx
   have HSA:=Lib.hid (C2 sig b)
   have HWA:=Lib.hid (Ce b)
   have hans:ay sig b=(b.sites.all (fe sig b) && b.inner.all (fM b)):=by unfold ay;rw [HH.out,HOK.out];rfl
   have HN:=Lib.hid hans
   clear hans eg1
   have Hx:=Lib.hid trivial
   cases hz:b.sites.any (fun p=>!(dB sig b p b.nodes.length))
   have Hz:=Lib.hid hz;clear hz
   cases hx:b.inner.any (fun x=>!(dJ b x.link))
   have Hx:=Lib.hid hx;clear hx
   have isF:=trivial
   rotate_left
   have Hx:=Lib.hid hx;clear hx
   have isP:=trivial
   rotate_left
   have Hz:=Lib.hid hz;clear hz
   have isP:=trivial
   all_goals go_wp2_with (first|(go_at_call 151;(refine (dK lo' hi' (fun x=>!(dJ b x.link)) 152 #[.pointer (some ⟨W0.heap.size,0,none⟩)] _ _ _ hI eg3 (fun j hj cs W hW hP=>lr lo' hi' W0.heap.size _ b cs _ W (bW.keeps _ _ _ _ _ _ (bV.ext hW) hB) HE.out hol (fun j u hj=>hW.keep (hb.keep (hX1.keep (HBB.out j u hj)))) hP)).mono ?_);rintro e y ⟨rfl,hb⟩;rw [Hx.out];replace ps:=Ext.keep hb ps;replace p0:=Ext.keep hb p0;replace p1:=Ext.keep hb p1;replace p2:=Ext.keep hb p2;replace p3:=Ext.keep hb p3;replace p4:=Ext.keep hb p4;replace p5:=Ext.keep hb p5;replace hV:=hV.ext fo.keeps hb;replace hB:=bW.keeps _ _ _ _ _ _ (bV.ext hb) hB;replace hS:=hS.ext bS.keeps hb;replace hI:=hI.ext WrP.keeps hb)|(go_at_call 108;(refine (bH lo' hi' (fun p=>!(dB sig b p b.nodes.length)) 150 #[.pointer (some ⟨W0.heap.size,0,none⟩),.pointer (some ⟨w.heap.size,0,none⟩)] _ _ _ hS eg2 (fun j hj cs W hW hP=>l9 lo' hi' lo hi W0.heap.size w.heap.size _ sig _ b _ W (hV.ext fo.keeps hW) (bW.keeps _ _ _ _ _ _ (bV.ext hW) hB) hP.2 HR.out hC (fun j u hj=>hW.keep (hX1.keep (HBB.out j u hj))) (hW.keep ps))).mono ?_);rintro e y ⟨rfl,hb⟩;rw [Hz.out];replace ps:=Ext.keep hb ps;replace p0:=Ext.keep hb p0;replace p1:=Ext.keep hb p1;replace p2:=Ext.keep hb p2;replace p3:=Ext.keep hb p3;replace p4:=Ext.keep hb p4;replace p5:=Ext.keep hb p5;replace hV:=hV.ext fo.keeps hb;replace hB:=bW.keeps _ _ _ _ _ _ (bV.ext hb) hB;replace hS:=hS.ext bS.keeps hb;replace hI:=hI.ext WrP.keeps hb))
   all_goals first|(have:=isF;go_ret;exact ⟨am (by rw [HN.out,jc HSA.out,jc HWA.out,Hz.out,Hx.out];rfl),xw⟩)|(have:=isP;go_ret;exact ⟨am (by rw [HN.out];first|(rw [jc HSA.out,Hz.out];rfl)|(rw [jc HSA.out,jc HWA.out,Hz.out,Hx.out];rfl)),xw⟩)
end Go.Proofs.YtclpbhoekmecjaaGreatDoor
namespace Go.Proofs.YtclpbhoekmecjaaGreatDoor
open Go.RowKit
set_option linter.unusedVariables false
set_option linter.unusedSimpArgs false
attribute [local irreducible] inR dD dh kX dp dB dJ fe fM tK ey ay
def o6 (b:Big):Bool:=decide (b.sites.length=0) && decide (b.inner.length=0)
theorem jo (lo' hi':Nat) (cs:List Value) (b:Big) (w:World) (hB:bW lo' hi' w cs b) :
 Calls Tryz.prog 102 #[.agg cs.toArray] w fun e w'=>e=.returned (.bool (o6 b))∧Ext w w':=by
 obtain ⟨v1,v2,v4,v5,rfl,r1,r2,hN,hS,hO,hI⟩:=hB
 obtain ⟨a2,k2,rfl,n1,n2,n3,n4⟩:=hS
 obtain ⟨a5,k5,rfl,l1,l2,l3,l4⟩:=hI
 unfold maxLen at n2 l2
 obtain ⟨W0,hW0,hbx,hx0,hz⟩:=aN w [.int .i64 b.roots,v1,.slice a2 b.sites.length k2,.int .i64 b.edges,v4,.slice a5 b.inner.length k5] 40
 have p2:=(hbx 2 _ rfl).1
 have p5:=(hbx 5 _ rfl).1
 clear hz hbx n4 l4
 go_enter Tryz.func102,Tryz.ntmps102
 have Hi:=Lib.hid trivial
 by_cases hs:((b.sites.length:Int))=(0)
 have es:(((b.sites.length:Int)) == (0))=true:=beq_iff_eq.2 hs
 have Hs:=Lib.hid hs;clear hs
 by_cases hi:((b.inner.length:Int))=(0)
 have ei:(((b.inner.length:Int)) == (0))=true:=beq_iff_eq.2 hi
 have Hi:=Lib.hid hi;clear hi
 have isF:=trivial
 rotate_left
 have ei:(((b.inner.length:Int)) == (0))=false:=beq_eq_false_iff_ne.2 hi
 have Hi:=Lib.hid hi;clear hi
 have isP:=trivial
 rotate_left
 have es:(((b.sites.length:Int)) == (0))=false:=beq_eq_false_iff_ne.2 hs
 have Hs:=Lib.hid hs;clear hs
 have isP:=trivial
 all_goals go_wp2_with fail
 all_goals first|(have:=isF;go_ret;exact ⟨am (by have h1:b.sites.length=0:=(by have:=Hs.out;omega);have h2:b.inner.length=0:=(by have:=Hi.out;omega);unfold o6;rw [decide_eq_true h1,decide_eq_true h2];rfl),xw⟩)|(have:=isP;go_ret;exact ⟨am (by unfold o6;first|(have h1:¬b.sites.length=0:=(by have:=Hs.out;omega);rw [decide_eq_false h1];rfl)|(have h1:b.sites.length=0:=(by have:=Hs.out;omega);have h2:¬b.inner.length=0:=(by have:=Hi.out;omega);rw [decide_eq_true h1,decide_eq_false h2];rfl)),xw⟩)
set_option maxHeartbeats 1600000 in
theorem pt (lo hi lo' hi':Nat) (v:Value) (sig:List Ctl) (cs:List Value) (b:Big) (w:World) (hV:lu lo hi w v sig) (hB:bW lo' hi' w cs b) (hlen:b.inner.length≤1048576) :
 Calls Tryz.prog 56 #[v,.agg cs.toArray] w fun e w'=>e=.returned (.bool (fq sig b))∧Ext w w':=by
 obtain ⟨v1,v2,v4,v5,rfl,r1,r2,hN,hS,hO,hI⟩:=id hB
 obtain ⟨W0,hW0,hbx,hx0,hz⟩:=aN w [.int .i64 b.roots,v1,v2,.int .i64 b.edges,v4,v5] 40
 have p0:=(hbx 0 _ rfl).1
 have p1:=(hbx 1 _ rfl).1
 have p2:=(hbx 2 _ rfl).1
 have p3:=(hbx 3 _ rfl).1
 have p4:=(hbx 4 _ rfl).1
 have p5:=(hbx 5 _ rfl).1
 clear hz hbx
 replace hV:=hV.ext fo.keeps hx0
 replace hB:=bW.keeps _ _ _ _ _ _ (bV.ext hx0) hB
 have HAG:Hid (fq sig b=(ay sig b && o6 b)):=Lib.hid rfl
 go_enter Tryz.func56,Tryz.ntmps56
 have Hc:=Lib.hid trivial
 cases ha:ay sig b
 have Ha:=Lib.hid ha;clear ha
 have isP:=trivial
 rotate_left
 have Ha:=Lib.hid ha;clear ha
 cases hc:o6 b
 have Hc:=Lib.hid hc;clear hc
 have isP:=trivial
 rotate_left
 have Hc:=Lib.hid hc;clear hc
 have isF:=trivial
 all_goals go_wp2_with (first|(go_at_call 102;(refine (jo lo' hi' _ b _ hB).mono ?_);rintro e y ⟨rfl,hb⟩;rw [Hc.out];replace p0:=Ext.keep hb p0;replace p1:=Ext.keep hb p1;replace p2:=Ext.keep hb p2;replace p3:=Ext.keep hb p3;replace p4:=Ext.keep hb p4;replace p5:=Ext.keep hb p5;replace hB:=bW.keeps _ _ _ _ _ _ (bV.ext hb) hB)|(go_at_call 101;(refine (eL lo hi lo' hi' _ sig _ b _ hV hB hlen).mono ?_);rintro e y ⟨rfl,hb⟩;rw [Ha.out];replace p0:=Ext.keep hb p0;replace p1:=Ext.keep hb p1;replace p2:=Ext.keep hb p2;replace p3:=Ext.keep hb p3;replace p4:=Ext.keep hb p4;replace p5:=Ext.keep hb p5;replace hB:=bW.keeps _ _ _ _ _ _ (bV.ext hb) hB))
 all_goals first|(have:=isF;go_ret;exact ⟨am (by rw [HAG.out,Ha.out,Hc.out];rfl),xw⟩)|(have:=isP;go_ret;exact ⟨am (by rw [HAG.out];first|(rw [Ha.out];rfl)|(rw [Ha.out,Hc.out];rfl)),xw⟩)
set_option maxRecDepth 100000 in
set_option maxHeartbeats 1600000 in
theorem ee (lo hi lo' hi':Nat) (v:Value) (sig:List Ctl) (cs cs':List Value) (b b':Big) (w:World) (hV:lu lo hi w v sig) (hB:bW lo' hi' w cs b) (hB':bW lo' hi' w cs' b') (hlen:b.inner.length≤1048576) (hlen':b'.inner.length≤1048576) :
 Calls Tryz.prog 140 #[v,.agg cs.toArray,.agg cs'.toArray] w fun e w'=>e=.returned (.bool (ay sig b && ay sig b'))∧Ext w w':=by
 obtain ⟨v1,v2,v4,v5,rfl,r1,r2,hN,hS,hO,hI⟩:=id hB
 obtain ⟨y1,y2,y4,y5,rfl,r1',r2',hN',hS',hO',hI'⟩:=id hB'
 obtain ⟨W0,hW0,hbx,hx0,hz⟩:=aN w [.int .i64 b.roots,v1,v2,.int .i64 b.edges,v4,v5] 40
 obtain ⟨W1,hW1,hbx1,hx1,hz1⟩:=aN W0 [.int .i64 b'.roots,y1,y2,.int .i64 b'.edges,y4,y5] 40
 have p0:=hx1.keep (hbx 0 _ rfl).1
 have p1:=hx1.keep (hbx 1 _ rfl).1
 have p2:=hx1.keep (hbx 2 _ rfl).1
 have p3:=hx1.keep (hbx 3 _ rfl).1
 have p4:=hx1.keep (hbx 4 _ rfl).1
 have p5:=hx1.keep (hbx 5 _ rfl).1
 have s0:=(hbx1 0 _ rfl).1
 have s1:=(hbx1 1 _ rfl).1
 have s2:=(hbx1 2 _ rfl).1
 have s3:=(hbx1 3 _ rfl).1
 have s4:=(hbx1 4 _ rfl).1
 have s5:=(hbx1 5 _ rfl).1
 have hzz:w.heap.size<W0.heap.size:=by omega
 clear hz hbx hz1 hbx1
 have hx:=hx0.trans hx1
 replace hV:=hV.ext fo.keeps hx
 replace hB:=bW.keeps _ _ _ _ _ _ (bV.ext hx) hB
 replace hB':=bW.keeps _ _ _ _ _ _ (bV.ext hx) hB'
 go_enter Tryz.func140,Tryz.ntmps140
 have Hc:=Lib.hid trivial
 cases ha:ay sig b
 have Ha:=Lib.hid ha;clear ha
 have isP:=trivial
 rotate_left
 have Ha:=Lib.hid ha;clear ha
 cases hc:ay sig b'
 have Hc:=Lib.hid hc;clear hc
 have isP:=trivial
 rotate_left
 have Hc:=Lib.hid hc;clear hc
 have isF:=trivial
 all_goals go_wp2_with (first|(go_at_call 101;(with_reducible refine (eL lo hi lo' hi' _ sig [.int .i64 b'.roots,y1,y2,.int .i64 b'.edges,y4,y5] b' _ hV hB' hlen').mono ?_);rintro e y ⟨rfl,hb⟩;rw [Hc.out];replace p0:=Ext.keep hb p0;replace p1:=Ext.keep hb p1;replace p2:=Ext.keep hb p2;replace p3:=Ext.keep hb p3;replace p4:=Ext.keep hb p4;replace p5:=Ext.keep hb p5;replace s0:=Ext.keep hb s0;replace s1:=Ext.keep hb s1;replace s2:=Ext.keep hb s2;replace s3:=Ext.keep hb s3;replace s4:=Ext.keep hb s4;replace s5:=Ext.keep hb s5;replace hV:=hV.ext fo.keeps hb;replace hB':=bW.keeps _ _ _ _ _ _ (bV.ext hb) hB')|(go_at_call 101;(with_reducible refine (eL lo hi lo' hi' _ sig [.int .i64 b.roots,v1,v2,.int .i64 b.edges,v4,v5] b _ hV hB hlen).mono ?_);rintro e y ⟨rfl,hb⟩;rw [Ha.out];replace p0:=Ext.keep hb p0;replace p1:=Ext.keep hb p1;replace p2:=Ext.keep hb p2;replace p3:=Ext.keep hb p3;replace p4:=Ext.keep hb p4;replace p5:=Ext.keep hb p5;replace s0:=Ext.keep hb s0;replace s1:=Ext.keep hb s1;replace s2:=Ext.keep hb s2;replace s3:=Ext.keep hb s3;replace s4:=Ext.keep hb s4;replace s5:=Ext.keep hb s5;replace hV:=hV.ext fo.keeps hb;replace hB':=bW.keeps _ _ _ _ _ _ (bV.ext hb) hB'))
 all_goals (go_ret;exact ⟨am (by rfl),xw⟩)
end Go.Proofs.YtclpbhoekmecjaaGreatDoor
namespace Go.Proofs.YtclpbhoekmecjaaGreatDoor
open Go.RowKit
set_option linter.unusedVariables false
set_option linter.unusedSimpArgs false
def kc (a c:List ByteArray) (i:Nat):Bool:=lF (a.getD i ⟨#[]⟩) (c.getD i ⟨#[]⟩)
def eqS (a c:List ByteArray):Bool:=decide (a.length=c.length) && (List.range a.length).all (kc a c)
theorem jH (a c:List ByteArray) (i:Nat) (h1:i<a.length) (h2:i<c.length):kc a c i=(a[i].toList == c[i].toList):=by
 unfold kc lF
 rw [List.getD_eq_getElem?_getD,List.getD_eq_getElem?_getD,List.getElem?_eq_getElem h1,List.getElem?_eq_getElem h2];rfl
theorem qq {a c:List ByteArray} (i:Nat) (h1:i<a.length) (h:kc a c i=false):eqS a c=false:=by
 unfold eqS;rw [aT _ _ i h1 h];simp
theorem qt {a c:List ByteArray} (h:¬(a.length:Int)=(c.length:Int)):eqS a c=false:=by
 unfold eqS;rw [decide_eq_false (by omega)];rfl
theorem zy {a c:List ByteArray} (h:(a.length:Int)=(c.length:Int)) (hh:(List.range a.length).all (kc a c)=true):eqS a c=true:=by
 unfold eqS;rw [decide_eq_true (by omega),hh];rfl
attribute [local irreducible] inR dD dh eH ba aw mP nz gi cX dq dW ay kc
set_option maxHeartbeats 1600000 in
theorem dN (lo hi lo' hi':Nat) (v v':Value) (a c:List ByteArray) (w:World) (h:yg lo hi w v a) (h':yg lo' hi' w v' c) :
 Calls Tryz.prog 142 #[v,v'] w fun e w'=>e=.returned (.bool (eqS a c))∧Ext w w':=by
 obtain ⟨ua,k,rfl,g1,g2,g3,g4⟩:=h
 obtain ⟨ua',k',rfl,m1,m2,m3,m4⟩:=h'
 unfold maxLen at g2 m2
 by_cases hl:(a.length:Int)=(c.length:Int)
 ·have el:((a.length:Int) != (c.length:Int))=false:=bne_eq_false_iff_eq.2 hl
  have HL:=Lib.hid hl
  clear hl
  go_enter Tryz.func142,Tryz.ntmps142
  go_wp2
  go_loopw [13] (fun c' wr=>∃i:Nat,c'=.int .i64 i∧i≤a.length∧(List.range i).all (kc a c)=true∧Ext w wr) (fun c' _=>a.length - (intOf c').toNat)
  case atStart=>exact ⟨0,rfl,Nat.zero_le _,rfl,xw⟩
  case round=>
   obtain ⟨i,rfl,hi0,hok,hx⟩:=hrel
   have HOK:=Lib.hid hok
   clear hok
   by_cases hlt:i<a.length
   ·have hlt2:i<c.length:=by have:=HL.out;omega
    have HS:=Lib.hid (bM (kc a c) i)
    have HBD:=Lib.hid (qq (c:=c) i hlt)
    have HA:=Lib.hid (jH a c i hlt hlt2)
    rcases g4 with g4|⟨b1,o1,rfl,gb1,gb2,g4⟩
    ·subst g4;simp at hlt
    rcases m4 with m4|⟨b2,o2,rfl,mb1,mb2,m4⟩
    ·subst m4;simp at hlt2
    obtain ⟨cs,hl,⟨rfl,e1⟩,hc⟩:=g4 i hlt
    have q0:=hx.keep (hc 0 _ rfl)
    rw [Nat.mul_one,Nat.add_zero] at q0
    obtain ⟨ds,hdl,⟨rfl,d1⟩,hd⟩:=m4 i hlt2
    have r0:=hx.keep (hd 0 _ rfl)
    rw [Nat.mul_one,Nat.add_zero] at r0
    clear hc hd g4 m4
    have j0:(0:Int)≤(i:Int):=by omega
    have j1:(i:Int)<(a.length:Int):=by omega
    have j2:(i:Int)<(c.length:Int):=by omega
    cases hb:(a[i].toList == c[i].toList)
    have Hb:=Lib.hid hb
    have HB:=Lib.hid (HBD.out (by rw [HA.out];exact Hb.out))
    have isF:=trivial
    rotate_left
    have Hb:=Lib.hid hb
    have isP:=trivial
    all_goals go_wp2_with fail
    all_goals
     refine wp_region_held_drew (S:=(fun w'=>Ext wr w')) (by kernel_rfl) ?_ (fun hHeld=>?_)
     ·refine xw
     refine tkP 0 ?_ ?_ ?_;rotate_left;focus (intro w;go_simp;try with_reducible rfl)
     try simp only [Act.put,aj]
     refine tkP 1 ?_ ?_ ?_;rotate_left;focus (intro w;go_simp;try with_reducible rfl)
     try simp only [Act.put,aj]
     refine tkP 2 ?_ ?_ ?_;rotate_left;focus (intro w;go_simp;try with_reducible rfl)
     try simp only [Act.put,aj]
     refine tkY 3 ?_ ?_ ?_;rotate_left;focus (intro w hSw;(try dsimp only at hSw);have sx:=hSw;have s_q0:=Ext.keep sx q0;have s_r0:=Ext.keep sx r0;go_simp;try with_reducible rfl)
     try simp only [Act.put,aj]
     refine tkP 4 ?_ ?_ ?_;rotate_left;focus (intro w;go_simp;try with_reducible rfl)
     try simp only [Act.put,aj]
     refine tkP 5 ?_ ?_ ?_;rotate_left;focus (intro w;go_simp;try with_reducible rfl)
     try simp only [Act.put,aj]
     refine tkP 6 ?_ ?_ ?_;rotate_left;focus (intro w;go_simp;try with_reducible rfl)
     try simp only [Act.put,aj]
     refine tkY 7 ?_ ?_ ?_;rotate_left;focus (intro w hSw;(try dsimp only at hSw);have sx:=hSw;have s_q0:=Ext.keep sx q0;have s_r0:=Ext.keep sx r0;go_simp;try with_reducible rfl)
     try simp only [Act.put,aj]
     refine tkP 8 ?_ ?_ ?_;rotate_left;focus (intro w;go_simp;try with_reducible rfl)
     try simp only [Act.put,aj]
     refine wpAnyH_done (by kernel_rfl) ?_ _
    all_goals go_wp2
    all_goals first|(have:=isF;all_goals go_ret;all_goals exact ⟨am HB.out.symm,xw⟩)|(have:=isP;all_goals go_roundw;(case rel=>exact ⟨i+1,rfl,by omega,by rw [HS.out,HOK.out,HA.out,Hb.out];rfl,xw⟩);all_goals (simp only [intOf];omega))
   ·have e:i=a.length:=by omega
    subst e
    go_wp2
    go_ret
    exact ⟨am (zy HL.out HOK.out).symm,xw⟩
 ·have el:((a.length:Int) != (c.length:Int))=true:=bne_iff_ne.2 hl
  have HB:=Lib.hid (qt hl)
  clear hl
  go_enter Tryz.func142,Tryz.ntmps142
  go_wp2
  go_ret
  exact ⟨am HB.out.symm,xw⟩
end Go.Proofs.YtclpbhoekmecjaaGreatDoor
namespace Go.Proofs.YtclpbhoekmecjaaGreatDoor
open Go.RowKit
set_option linter.unusedVariables false
set_option linter.unusedSimpArgs false
def iQ (r:Rul) (x:Int):Bool:=inR x 0 ((r.redex.sites.length:Int) - 1)
def gy (sig:List Ctl) (r:Rul):Bool:=(ay sig r.redex && ay sig r.reactum) && (bZ r.redex && (decide (r.reactum.inner.length=0) && (decide (r.redex.roots=r.reactum.roots) && (eqS r.redex.outer r.reactum.outer && (decide (r.copies.length=r.reactum.sites.length) && r.copies.all (iQ r))))))
def fP (sig:List Ctl) (l:List Rul):Bool:=inR (l.length:Int) 1 6 && l.all (gy sig)
theorem BD (r:Rul):r.copies.any (fun x=>!(inR x 0 ((r.redex.sites.length:Int) - 1))) = !(r.copies.all (iQ r)):=iG (iQ r) r.copies
theorem Db (sig:List Ctl) (l:List Rul):l.any (fun r=>!(gy sig r)) = !(l.all (gy sig)):=iG (gy sig) l
theorem xi {sig:List Ctl} {l:List Rul} (h:fP sig l=true):kX sig=true:=by
 unfold fP at h
 rw [Bool.and_eq_true] at h
 have h1:=bL h.1
 cases l with
 | nil=>simp at h1
 | cons r l=>
  rw [List.all_cons,Bool.and_eq_true] at h
  have h2:=h.2.1
  unfold gy at h2
  simp only [Bool.and_eq_true] at h2
  exact (de (cN h2.1.1).1).1
theorem ku {sig:List Ctl} {r:Rul} (h:(ay sig r.redex && ay sig r.reactum)=false∨bZ r.redex=false∨¬r.reactum.inner.length=0∨¬r.redex.roots=r.reactum.roots∨eqS r.redex.outer r.reactum.outer=false∨¬(r.copies.length:Int)=r.reactum.sites.length∨r.copies.all (iQ r)=false):gy sig r=false:=by
 unfold gy
 rcases h with h|h|h|h|h|h|h
 ·rw [h];rfl
 ·rw [h];simp
 ·rw [decide_eq_false h];simp
 ·rw [decide_eq_false h];simp
 ·rw [h];simp
 ·rw [decide_eq_false (show ¬r.copies.length=r.reactum.sites.length by omega)];simp
 ·rw [h];simp
theorem AJ {sig:List Ctl} {r:Rul} (a:(ay sig r.redex && ay sig r.reactum)=true) (b:bZ r.redex=true) (c:r.reactum.inner.length=0) (d:r.redex.roots=r.reactum.roots) (e:eqS r.redex.outer r.reactum.outer=true) (f:(r.copies.length:Int)=r.reactum.sites.length) (g:r.copies.all (iQ r)=true):gy sig r=true:=by
 unfold gy
 rw [a,b,decide_eq_true c,decide_eq_true d,e,decide_eq_true (show r.copies.length=r.reactum.sites.length by omega),g];rfl
attribute [local irreducible] inR dD kX ay bZ eqS iQ gy
theorem oZ (x:Int) (B:Nat) (a:Option Addr) (n k:Nat) (w:World) (hn:n≤1000000) (hc:w.cell? ⟨B,2,none⟩=some (.slice a n k)) :
 Calls Tryz.prog 143 #[.int .i64 x,.pointer (some ⟨B,0,none⟩)] w fun e w'=>e=.returned (.bool (!(inR x 0 ((n:Int) - 1))))∧Ext w w':=by
 have hw:=IntWalk.i64_in ((n:Int) - 1) (by omega)
 go_enter Tryz.func143,Tryz.ntmps143
 go_wp2_with (go_at_call 58;refine (aP _ _ _ _).mono ?_;rintro e w' ⟨rfl,rfl⟩)
 go_ret
 exact ⟨rfl,xw⟩
set_option maxRecDepth 100000 in
set_option maxHeartbeats 3200000 in
theorem qr (lo hi lo' hi':Nat) (v:Value) (sig:List Ctl) (cs:List Value) (r:Rul) (w:World) (hV:lu lo hi w v sig) (h:tO lo' hi' w cs r) (hl1:r.redex.inner.length≤1048576) (hl2:r.reactum.inner.length≤1048576) :
 Calls Tryz.prog 100 #[v,.agg cs.toArray] w fun e w'=>e=.returned (.bool (gy sig r))∧Ext w w':=by
 obtain ⟨c1,c2,vc,rfl,hB1,hB2,hC⟩:=h
 obtain ⟨v1,v2,v4,v5,rfl,r1,r2,hN1,hS1,hO1,hI1⟩:=id hB1
 obtain ⟨y1,y2,y4,y5,rfl,r3,r4,hN2,hS2,hO2,hI2⟩:=id hB2
 obtain ⟨a2,k2,rfl,n1,n2,n3,n4⟩:=id hS1
 obtain ⟨b2,l2,rfl,m1,m2,m3,m4⟩:=id hS2
 obtain ⟨b5,l5,rfl,o1,o2,o3,o4⟩:=id hI2
 obtain ⟨a6,k6,rfl,q1,q2,q3,q4⟩:=id hC
 unfold maxLen at n2 m2 o2 q2
 obtain ⟨W0,hW0,hbx,hx0,hz⟩:=aN w [.int .i64 r.redex.roots,v1,.slice a2 r.redex.sites.length k2,.int .i64 r.redex.edges,v4,v5,.int .i64 r.reactum.roots,y1,.slice b2 r.reactum.sites.length l2,.int .i64 r.reactum.edges,y4,.slice b5 r.reactum.inner.length l5,.slice a6 r.copies.length k6] 95
 have p0:=(hbx 0 _ rfl).1
 have p1:=(hbx 1 _ rfl).1
 have p2:=(hbx 2 _ rfl).1
 have p3:=(hbx 3 _ rfl).1
 have p4:=(hbx 4 _ rfl).1
 have p5:=(hbx 5 _ rfl).1
 have p6:=(hbx 6 _ rfl).1
 have p7:=(hbx 7 _ rfl).1
 have p8:=(hbx 8 _ rfl).1
 have p9:=(hbx 9 _ rfl).1
 have p10:=(hbx 10 _ rfl).1
 have p11:=(hbx 11 _ rfl).1
 have p12:=(hbx 12 _ rfl).1
 clear hz
 replace hB1:=bW.keeps _ _ _ _ _ _ (bV.ext hx0) hB1
 replace hB2:=bW.keeps _ _ _ _ _ _ (bV.ext hx0) hB2
 replace hO1:=hO1.ext dv.keeps hx0
 replace hO2:=hO2.ext dv.keeps hx0
 replace hC:=hC.ext bS.keeps hx0
 replace hV:=hV.ext fo.keeps hx0
 have eg1:∀args w,(callFunc 143 args).run Tryz.prog w=.ok (.enter 143 args) w:=enters_of Tryz.func143 (by kernel_rfl) rfl
 have HCA:=Lib.hid (BD r)
 clear hbx
 change Calls Tryz.prog 100 #[v,.agg #[.int .i64 r.redex.roots,v1,.slice a2 r.redex.sites.length k2,.int .i64 r.redex.edges,v4,v5,.int .i64 r.reactum.roots,y1,.slice b2 r.reactum.sites.length l2,.int .i64 r.reactum.edges,y4,.slice b5 r.reactum.inner.length l5,.slice a6 r.copies.length k6]] w _
 go_enter Tryz.func100,Tryz.ntmps100
 cases ha:(ay sig r.redex && ay sig r.reactum)
 ·have Ha:=Lib.hid ha
  clear ha
  go_wp2_with (first|(go_at_call 140;(refine (ee lo hi lo' hi' _ sig [.int .i64 r.redex.roots,v1,.slice a2 r.redex.sites.length k2,.int .i64 r.redex.edges,v4,v5] [.int .i64 r.reactum.roots,y1,.slice b2 r.reactum.sites.length l2,.int .i64 r.reactum.edges,y4,.slice b5 r.reactum.inner.length l5] r.redex r.reactum _ hV hB1 hB2 hl1 hl2).mono ?_);rintro e y ⟨rfl,hb⟩;rw [Ha.out];replace p0:=Ext.keep hb p0;replace p1:=Ext.keep hb p1;replace p2:=Ext.keep hb p2;replace p3:=Ext.keep hb p3;replace p4:=Ext.keep hb p4;replace p5:=Ext.keep hb p5;replace p6:=Ext.keep hb p6;replace p7:=Ext.keep hb p7;replace p8:=Ext.keep hb p8;replace p9:=Ext.keep hb p9;replace p10:=Ext.keep hb p10;replace p11:=Ext.keep hb p11;replace p12:=Ext.keep hb p12;replace hB1:=bW.keeps _ _ _ _ _ _ (bV.ext hb) hB1;replace hO1:=hO1.ext dv.keeps hb;replace hO2:=hO2.ext dv.keeps hb;replace hC:=hC.ext bS.keeps hb))
  go_ret
  exact ⟨am (ku (by first|(left;exact Ha.out)|(right;left;exact Hs.out)|(right;right;left;omega)|(right;right;right;left;exact Ho.out)|(right;right;right;right;left;exact He.out))).symm,xw⟩
 have Ha:=Lib.hid ha
 clear ha
 have hbb:=Bool.and_eq_true_iff.1 Ha.out;have D1:=Lib.hid (bG hbb.1);have hsl:r.redex.sites.length≤1000:=D1.out.sites;clear hbb
 cases hs:bZ r.redex
 ·have Hs:=Lib.hid hs
  clear hs
  go_wp2_with (first|(go_at_call 141;(refine (eG lo' hi' [.int .i64 r.redex.roots,v1,.slice a2 r.redex.sites.length k2,.int .i64 r.redex.edges,v4,v5] r.redex _ hB1 D1.out).mono ?_);rintro e y ⟨rfl,hb⟩;rw [Hs.out];replace p0:=Ext.keep hb p0;replace p1:=Ext.keep hb p1;replace p2:=Ext.keep hb p2;replace p3:=Ext.keep hb p3;replace p4:=Ext.keep hb p4;replace p5:=Ext.keep hb p5;replace p6:=Ext.keep hb p6;replace p7:=Ext.keep hb p7;replace p8:=Ext.keep hb p8;replace p9:=Ext.keep hb p9;replace p10:=Ext.keep hb p10;replace p11:=Ext.keep hb p11;replace p12:=Ext.keep hb p12;replace hB1:=bW.keeps _ _ _ _ _ _ (bV.ext hb) hB1;replace hO1:=hO1.ext dv.keeps hb;replace hO2:=hO2.ext dv.keeps hb;replace hC:=hC.ext bS.keeps hb)|(go_at_call 140;(refine (ee lo hi lo' hi' _ sig [.int .i64 r.redex.roots,v1,.slice a2 r.redex.sites.length k2,.int .i64 r.redex.edges,v4,v5] [.int .i64 r.reactum.roots,y1,.slice b2 r.reactum.sites.length l2,.int .i64 r.reactum.edges,y4,.slice b5 r.reactum.inner.length l5] r.redex r.reactum _ hV hB1 hB2 hl1 hl2).mono ?_);rintro e y ⟨rfl,hb⟩;rw [Ha.out];replace p0:=Ext.keep hb p0;replace p1:=Ext.keep hb p1;replace p2:=Ext.keep hb p2;replace p3:=Ext.keep hb p3;replace p4:=Ext.keep hb p4;replace p5:=Ext.keep hb p5;replace p6:=Ext.keep hb p6;replace p7:=Ext.keep hb p7;replace p8:=Ext.keep hb p8;replace p9:=Ext.keep hb p9;replace p10:=Ext.keep hb p10;replace p11:=Ext.keep hb p11;replace p12:=Ext.keep hb p12;replace hB1:=bW.keeps _ _ _ _ _ _ (bV.ext hb) hB1;replace hO1:=hO1.ext dv.keeps hb;replace hO2:=hO2.ext dv.keeps hb;replace hC:=hC.ext bS.keeps hb))
  go_ret
  exact ⟨am (ku (by first|(left;exact Ha.out)|(right;left;exact Hs.out)|(right;right;left;omega)|(right;right;right;left;exact Ho.out)|(right;right;right;right;left;exact He.out))).symm,xw⟩
 have Hs:=Lib.hid hs
 clear hs
 by_cases hn:0<r.reactum.inner.length
 ·have en:decide (0<r.reactum.inner.length)=true:=decide_eq_true hn
  go_wp2_with (first|(go_at_call 141;(refine (eG lo' hi' [.int .i64 r.redex.roots,v1,.slice a2 r.redex.sites.length k2,.int .i64 r.redex.edges,v4,v5] r.redex _ hB1 D1.out).mono ?_);rintro e y ⟨rfl,hb⟩;rw [Hs.out];replace p0:=Ext.keep hb p0;replace p1:=Ext.keep hb p1;replace p2:=Ext.keep hb p2;replace p3:=Ext.keep hb p3;replace p4:=Ext.keep hb p4;replace p5:=Ext.keep hb p5;replace p6:=Ext.keep hb p6;replace p7:=Ext.keep hb p7;replace p8:=Ext.keep hb p8;replace p9:=Ext.keep hb p9;replace p10:=Ext.keep hb p10;replace p11:=Ext.keep hb p11;replace p12:=Ext.keep hb p12;replace hB1:=bW.keeps _ _ _ _ _ _ (bV.ext hb) hB1;replace hO1:=hO1.ext dv.keeps hb;replace hO2:=hO2.ext dv.keeps hb;replace hC:=hC.ext bS.keeps hb)|(go_at_call 140;(refine (ee lo hi lo' hi' _ sig [.int .i64 r.redex.roots,v1,.slice a2 r.redex.sites.length k2,.int .i64 r.redex.edges,v4,v5] [.int .i64 r.reactum.roots,y1,.slice b2 r.reactum.sites.length l2,.int .i64 r.reactum.edges,y4,.slice b5 r.reactum.inner.length l5] r.redex r.reactum _ hV hB1 hB2 hl1 hl2).mono ?_);rintro e y ⟨rfl,hb⟩;rw [Ha.out];replace p0:=Ext.keep hb p0;replace p1:=Ext.keep hb p1;replace p2:=Ext.keep hb p2;replace p3:=Ext.keep hb p3;replace p4:=Ext.keep hb p4;replace p5:=Ext.keep hb p5;replace p6:=Ext.keep hb p6;replace p7:=Ext.keep hb p7;replace p8:=Ext.keep hb p8;replace p9:=Ext.keep hb p9;replace p10:=Ext.keep hb p10;replace p11:=Ext.keep hb p11;replace p12:=Ext.keep hb p12;replace hB1:=bW.keeps _ _ _ _ _ _ (bV.ext hb) hB1;replace hO1:=hO1.ext dv.keeps hb;replace hO2:=hO2.ext dv.keeps hb;replace hC:=hC.ext bS.keeps hb))
  go_ret
  exact ⟨am (ku (by first|(left;exact Ha.out)|(right;left;exact Hs.out)|(right;right;left;omega)|(right;right;right;left;exact Ho.out)|(right;right;right;right;left;exact He.out))).symm,xw⟩
 have en:decide (0<r.reactum.inner.length)=false:=decide_eq_false hn
 by_cases ho:(r.redex.roots)=(r.reactum.roots)
 rotate_left
 ·have eo:((r.redex.roots) != (r.reactum.roots))=true:=bne_iff_ne.2 ho
  have Ho:=Lib.hid ho
  clear ho
  go_wp2_with (first|(go_at_call 141;(refine (eG lo' hi' [.int .i64 r.redex.roots,v1,.slice a2 r.redex.sites.length k2,.int .i64 r.redex.edges,v4,v5] r.redex _ hB1 D1.out).mono ?_);rintro e y ⟨rfl,hb⟩;rw [Hs.out];replace p0:=Ext.keep hb p0;replace p1:=Ext.keep hb p1;replace p2:=Ext.keep hb p2;replace p3:=Ext.keep hb p3;replace p4:=Ext.keep hb p4;replace p5:=Ext.keep hb p5;replace p6:=Ext.keep hb p6;replace p7:=Ext.keep hb p7;replace p8:=Ext.keep hb p8;replace p9:=Ext.keep hb p9;replace p10:=Ext.keep hb p10;replace p11:=Ext.keep hb p11;replace p12:=Ext.keep hb p12;replace hB1:=bW.keeps _ _ _ _ _ _ (bV.ext hb) hB1;replace hO1:=hO1.ext dv.keeps hb;replace hO2:=hO2.ext dv.keeps hb;replace hC:=hC.ext bS.keeps hb)|(go_at_call 140;(refine (ee lo hi lo' hi' _ sig [.int .i64 r.redex.roots,v1,.slice a2 r.redex.sites.length k2,.int .i64 r.redex.edges,v4,v5] [.int .i64 r.reactum.roots,y1,.slice b2 r.reactum.sites.length l2,.int .i64 r.reactum.edges,y4,.slice b5 r.reactum.inner.length l5] r.redex r.reactum _ hV hB1 hB2 hl1 hl2).mono ?_);rintro e y ⟨rfl,hb⟩;rw [Ha.out];replace p0:=Ext.keep hb p0;replace p1:=Ext.keep hb p1;replace p2:=Ext.keep hb p2;replace p3:=Ext.keep hb p3;replace p4:=Ext.keep hb p4;replace p5:=Ext.keep hb p5;replace p6:=Ext.keep hb p6;replace p7:=Ext.keep hb p7;replace p8:=Ext.keep hb p8;replace p9:=Ext.keep hb p9;replace p10:=Ext.keep hb p10;replace p11:=Ext.keep hb p11;replace p12:=Ext.keep hb p12;replace hB1:=bW.keeps _ _ _ _ _ _ (bV.ext hb) hB1;replace hO1:=hO1.ext dv.keeps hb;replace hO2:=hO2.ext dv.keeps hb;replace hC:=hC.ext bS.keeps hb))
  go_ret
  exact ⟨am (ku (by first|(left;exact Ha.out)|(right;left;exact Hs.out)|(right;right;left;omega)|(right;right;right;left;exact Ho.out)|(right;right;right;right;left;exact He.out))).symm,xw⟩
 have eo:((r.redex.roots) != (r.reactum.roots))=false:=bne_eq_false_iff_eq.2 ho
 have Ho:=Lib.hid ho
 clear ho
 cases he:eqS r.redex.outer r.reactum.outer
 ·have He:=Lib.hid he
  clear he
  go_wp2_with (first|(go_at_call 142;(refine (dN lo' hi' lo' hi' _ _ _ _ _ hO1 hO2).mono ?_);rintro e y ⟨rfl,hb⟩;rw [He.out];replace p0:=Ext.keep hb p0;replace p1:=Ext.keep hb p1;replace p2:=Ext.keep hb p2;replace p3:=Ext.keep hb p3;replace p4:=Ext.keep hb p4;replace p5:=Ext.keep hb p5;replace p6:=Ext.keep hb p6;replace p7:=Ext.keep hb p7;replace p8:=Ext.keep hb p8;replace p9:=Ext.keep hb p9;replace p10:=Ext.keep hb p10;replace p11:=Ext.keep hb p11;replace p12:=Ext.keep hb p12;replace hB1:=bW.keeps _ _ _ _ _ _ (bV.ext hb) hB1;replace hO1:=hO1.ext dv.keeps hb;replace hO2:=hO2.ext dv.keeps hb;replace hC:=hC.ext bS.keeps hb)|(go_at_call 141;(refine (eG lo' hi' [.int .i64 r.redex.roots,v1,.slice a2 r.redex.sites.length k2,.int .i64 r.redex.edges,v4,v5] r.redex _ hB1 D1.out).mono ?_);rintro e y ⟨rfl,hb⟩;rw [Hs.out];replace p0:=Ext.keep hb p0;replace p1:=Ext.keep hb p1;replace p2:=Ext.keep hb p2;replace p3:=Ext.keep hb p3;replace p4:=Ext.keep hb p4;replace p5:=Ext.keep hb p5;replace p6:=Ext.keep hb p6;replace p7:=Ext.keep hb p7;replace p8:=Ext.keep hb p8;replace p9:=Ext.keep hb p9;replace p10:=Ext.keep hb p10;replace p11:=Ext.keep hb p11;replace p12:=Ext.keep hb p12;replace hB1:=bW.keeps _ _ _ _ _ _ (bV.ext hb) hB1;replace hO1:=hO1.ext dv.keeps hb;replace hO2:=hO2.ext dv.keeps hb;replace hC:=hC.ext bS.keeps hb)|(go_at_call 140;(refine (ee lo hi lo' hi' _ sig [.int .i64 r.redex.roots,v1,.slice a2 r.redex.sites.length k2,.int .i64 r.redex.edges,v4,v5] [.int .i64 r.reactum.roots,y1,.slice b2 r.reactum.sites.length l2,.int .i64 r.reactum.edges,y4,.slice b5 r.reactum.inner.length l5] r.redex r.reactum _ hV hB1 hB2 hl1 hl2).mono ?_);rintro e y ⟨rfl,hb⟩;rw [Ha.out];replace p0:=Ext.keep hb p0;replace p1:=Ext.keep hb p1;replace p2:=Ext.keep hb p2;replace p3:=Ext.keep hb p3;replace p4:=Ext.keep hb p4;replace p5:=Ext.keep hb p5;replace p6:=Ext.keep hb p6;replace p7:=Ext.keep hb p7;replace p8:=Ext.keep hb p8;replace p9:=Ext.keep hb p9;replace p10:=Ext.keep hb p10;replace p11:=Ext.keep hb p11;replace p12:=Ext.keep hb p12;replace hB1:=bW.keeps _ _ _ _ _ _ (bV.ext hb) hB1;replace hO1:=hO1.ext dv.keeps hb;replace hO2:=hO2.ext dv.keeps hb;replace hC:=hC.ext bS.keeps hb))
  go_ret
  exact ⟨am (ku (by first|(left;exact Ha.out)|(right;left;exact Hs.out)|(right;right;left;omega)|(right;right;right;left;exact Ho.out)|(right;right;right;right;left;exact He.out))).symm,xw⟩
 have He:=Lib.hid he
 clear he
 go_upto_region 3 with (first|(go_at_call 142;(refine (dN lo' hi' lo' hi' _ _ _ _ _ hO1 hO2).mono ?_);rintro e y ⟨rfl,hb⟩;rw [He.out];replace p0:=Ext.keep hb p0;replace p1:=Ext.keep hb p1;replace p2:=Ext.keep hb p2;replace p3:=Ext.keep hb p3;replace p4:=Ext.keep hb p4;replace p5:=Ext.keep hb p5;replace p6:=Ext.keep hb p6;replace p7:=Ext.keep hb p7;replace p8:=Ext.keep hb p8;replace p9:=Ext.keep hb p9;replace p10:=Ext.keep hb p10;replace p11:=Ext.keep hb p11;replace p12:=Ext.keep hb p12;replace hB1:=bW.keeps _ _ _ _ _ _ (bV.ext hb) hB1;replace hO1:=hO1.ext dv.keeps hb;replace hO2:=hO2.ext dv.keeps hb;replace hC:=hC.ext bS.keeps hb)|(go_at_call 141;(refine (eG lo' hi' [.int .i64 r.redex.roots,v1,.slice a2 r.redex.sites.length k2,.int .i64 r.redex.edges,v4,v5] r.redex _ hB1 D1.out).mono ?_);rintro e y ⟨rfl,hb⟩;rw [Hs.out];replace p0:=Ext.keep hb p0;replace p1:=Ext.keep hb p1;replace p2:=Ext.keep hb p2;replace p3:=Ext.keep hb p3;replace p4:=Ext.keep hb p4;replace p5:=Ext.keep hb p5;replace p6:=Ext.keep hb p6;replace p7:=Ext.keep hb p7;replace p8:=Ext.keep hb p8;replace p9:=Ext.keep hb p9;replace p10:=Ext.keep hb p10;replace p11:=Ext.keep hb p11;replace p12:=Ext.keep hb p12;replace hB1:=bW.keeps _ _ _ _ _ _ (bV.ext hb) hB1;replace hO1:=hO1.ext dv.keeps hb;replace hO2:=hO2.ext dv.keeps hb;replace hC:=hC.ext bS.keeps hb)|(go_at_call 140;(refine (ee lo hi lo' hi' _ sig [.int .i64 r.redex.roots,v1,.slice a2 r.redex.sites.length k2,.int .i64 r.redex.edges,v4,v5] [.int .i64 r.reactum.roots,y1,.slice b2 r.reactum.sites.length l2,.int .i64 r.reactum.edges,y4,.slice b5 r.reactum.inner.length l5] r.redex r.reactum _ hV hB1 hB2 hl1 hl2).mono ?_);rintro e y ⟨rfl,hb⟩;rw [Ha.out];replace p0:=Ext.keep hb p0;replace p1:=Ext.keep hb p1;replace p2:=Ext.keep hb p2;replace p3:=Ext.keep hb p3;replace p4:=Ext.keep hb p4;replace p5:=Ext.keep hb p5;replace p6:=Ext.keep hb p6;replace p7:=Ext.keep hb p7;replace p8:=Ext.keep hb p8;replace p9:=Ext.keep hb p9;replace p10:=Ext.keep hb p10;replace p11:=Ext.keep hb p11;replace p12:=Ext.keep hb p12;replace hB1:=bW.keeps _ _ _ _ _ _ (bV.ext hb) hB1;replace hO1:=hO1.ext dv.keeps hb;replace hO2:=hO2.ext dv.keeps hb;replace hC:=hC.ext bS.keeps hb))
 have Hk:=Lib.hid trivial
 by_cases hc:((r.copies.length:Int))=((r.reactum.sites.length:Int))
 have ec:(((r.copies.length:Int)) == ((r.reactum.sites.length:Int)))=true:=beq_iff_eq.2 hc
 have Hc:=Lib.hid hc;clear hc
 cases hk:r.copies.any (fun x=>!(inR x 0 ((r.redex.sites.length:Int) - 1)))
 have Hk:=Lib.hid hk;clear hk
 have isF:=trivial
 rotate_left
 have Hk:=Lib.hid hk;clear hk
 have isP:=trivial
 rotate_left
 have ec:(((r.copies.length:Int)) == ((r.reactum.sites.length:Int)))=false:=beq_eq_false_iff_ne.2 hc
 have Hc:=Lib.hid hc;clear hc
 have isP:=trivial
 all_goals go_wp2_with (first|(go_at_call 108;(refine (bH lo' hi' (fun x=>!(inR x 0 ((r.redex.sites.length:Int) - 1))) 143 #[.pointer (some ⟨w.heap.size,0,none⟩)] _ _ _ hC eg1 (fun i hi cs W hW hP=>oZ _ _ _ _ _ W (by omega) (hW.keep p2))).mono ?_);rintro e y ⟨rfl,hb⟩;rw [Hk.out];replace p0:=Ext.keep hb p0;replace p1:=Ext.keep hb p1;replace p2:=Ext.keep hb p2;replace p3:=Ext.keep hb p3;replace p4:=Ext.keep hb p4;replace p5:=Ext.keep hb p5;replace p6:=Ext.keep hb p6;replace p7:=Ext.keep hb p7;replace p8:=Ext.keep hb p8;replace p9:=Ext.keep hb p9;replace p10:=Ext.keep hb p10;replace p11:=Ext.keep hb p11;replace p12:=Ext.keep hb p12;replace hC:=hC.ext bS.keeps hb))
 all_goals first|(have:=isF;go_ret;exact ⟨am (AJ Ha.out Hs.out (by omega) Ho.out He.out Hc.out (by rw [jc HCA.out,Hk.out];rfl)).symm,xw⟩)|(have:=isP;go_ret;exact ⟨am (ku (by first|(right;right;right;right;right;left;exact Hc.out)|(right;right;right;right;right;right;rw [jc HCA.out,Hk.out];rfl))).symm,xw⟩)
end Go.Proofs.YtclpbhoekmecjaaGreatDoor
namespace Go.Proofs.YtclpbhoekmecjaaGreatDoor
open Go.RowKit
set_option linter.unusedVariables false
set_option linter.unusedSimpArgs false
attribute [local irreducible] inR dD kX ay bZ eqS iQ gy
set_option maxRecDepth 100000 in
set_option maxHeartbeats 1600000 in
theorem mS (lo hi lo' hi' B:Nat) (v:Value) (sig:List Ctl) (cs:List Value) (r:Rul) (w:World) (hV:lu lo hi w v sig) (h:tO lo' hi' w cs r) (hl1:r.redex.inner.length≤1048576) (hl2:r.reactum.inner.length≤1048576) (hbs:w.cell? ⟨B,0,none⟩=some v) :
 Calls Tryz.prog 99 #[.agg cs.toArray,.pointer (some ⟨B,0,none⟩)] w fun e w'=>e=.returned (.bool (!(gy sig r)))∧Ext w w':=by
 have hR:=h
 obtain ⟨a,k,rfl,_,_,_,_⟩:=id hV
 obtain ⟨c1,c2,vc,rfl,⟨v1,v2,v4,v5,rfl,_⟩,⟨y1,y2,y4,y5,rfl,_⟩,hC⟩:=h
 obtain ⟨W0,hW0,hbx,hx0,hz⟩:=aN w [.int .i64 r.redex.roots,v1,v2,.int .i64 r.redex.edges,v4,v5,.int .i64 r.reactum.roots,y1,y2,.int .i64 r.reactum.edges,y4,y5,vc] 95
 have p0:=(hbx 0 _ rfl).1
 have p1:=(hbx 1 _ rfl).1
 have p2:=(hbx 2 _ rfl).1
 have p3:=(hbx 3 _ rfl).1
 have p4:=(hbx 4 _ rfl).1
 have p5:=(hbx 5 _ rfl).1
 have p6:=(hbx 6 _ rfl).1
 have p7:=(hbx 7 _ rfl).1
 have p8:=(hbx 8 _ rfl).1
 have p9:=(hbx 9 _ rfl).1
 have p10:=(hbx 10 _ rfl).1
 have p11:=(hbx 11 _ rfl).1
 have p12:=(hbx 12 _ rfl).1
 have ps:=hx0.keep hbs
 clear hz hbx hbs
 replace hV:=hV.ext fo.keeps hx0
 replace hR:=tO.keeps _ _ _ _ _ _ (bV.ext hx0) hR
 change Calls Tryz.prog 99 #[.agg #[.int .i64 r.redex.roots,v1,v2,.int .i64 r.redex.edges,v4,v5,.int .i64 r.reactum.roots,y1,y2,.int .i64 r.reactum.edges,y4,y5,vc],.pointer (some ⟨B,0,none⟩)] w _
 go_enter Tryz.func99,Tryz.ntmps99
 go_wp2_with (go_at_call 100;refine (qr lo hi lo' hi' _ sig [.int .i64 r.redex.roots,v1,v2,.int .i64 r.redex.edges,v4,v5,.int .i64 r.reactum.roots,y1,y2,.int .i64 r.reactum.edges,y4,y5,vc] r _ hV hR hl1 hl2).mono ?_;rintro e y ⟨rfl,hb⟩)
 go_ret
 exact ⟨rfl,xw⟩
set_option maxHeartbeats 1600000 in
theorem oU (lo hi lo' hi':Nat) (v v':Value) (sig:List Ctl) (l:List Rul) (w:World) (hV:lu lo hi w v sig) (h:Gs lo' hi' w v' l) (hl:∀i (h:i<l.length),(l[i]).redex.inner.length≤1048576∧(l[i]).reactum.inner.length≤1048576) :
 Calls Tryz.prog 55 #[v,v'] w fun e w'=>e=.returned (.bool (fP sig l))∧Ext w w':=by
 obtain ⟨a,k,rfl,_,_,_,_⟩:=id hV
 obtain ⟨a',k',rfl,g1,g2,_,_⟩:=id h
 unfold maxLen at g2
 obtain ⟨W0,hW0,hbx,hx0,hz⟩:=aN w [.slice a sig.length k] 43
 have ps:=(hbx 0 _ rfl).1
 clear hz hbx
 replace hV:=hV.ext fo.keeps hx0
 replace h:=h.ext tO.keeps hx0
 have eg:∀args w,(callFunc 99 args).run Tryz.prog w=.ok (.enter 99 args) w:=enters_of Tryz.func99 (by kernel_rfl) rfl
 have HRA:=Lib.hid (Db sig l)
 have HRB:Hid (fP sig l=(inR (l.length:Int) 1 6 && l.all (gy sig))):=Lib.hid rfl
 go_enter Tryz.func55,Tryz.ntmps55
 have Hk:=Lib.hid trivial
 cases ha:inR (l.length:Int) 1 6
 have Ha:=Lib.hid ha;clear ha
 have isP:=trivial
 rotate_left
 have Ha:=Lib.hid ha;clear ha
 cases hk:l.any (fun r=>!(gy sig r))
 have Hk:=Lib.hid hk;clear hk
 have isF:=trivial
 rotate_left
 have Hk:=Lib.hid hk;clear hk
 have isP:=trivial
 all_goals go_wp2_with (first|(go_at_call 98;(refine (dI lo' hi' (fun r=>!(gy sig r)) 99 #[.pointer (some ⟨w.heap.size,0,none⟩)] _ _ _ h eg (fun j hj cs W hW hP=>mS lo hi lo' hi' w.heap.size _ sig cs _ W (hV.ext fo.keeps hW) hP (hl j hj).1 (hl j hj).2 (hW.keep ps))).mono ?_);rintro e y ⟨rfl,hb⟩;rw [Hk.out];replace ps:=Ext.keep hb ps)|(go_at_call 58;(refine (aP _ _ _ _).mono ?_);rintro e y ⟨rfl,rfl⟩;rw [Ha.out]))
 all_goals first|(have:=isF;go_ret;exact ⟨am (by rw [HRB.out,Ha.out,jc HRA.out,Hk.out];rfl),xw⟩)|(have:=isP;go_ret;exact ⟨am (by rw [HRB.out];first|(rw [Ha.out];rfl)|(rw [Ha.out,jc HRA.out,Hk.out];rfl)),xw⟩)
end Go.Proofs.YtclpbhoekmecjaaGreatDoor
namespace Go.Proofs.YtclpbhoekmecjaaGreatDoor
open Go.RowKit
set_option linter.unusedVariables false
set_option linter.unusedSimpArgs false
attribute [local irreducible] inR dD
end Go.Proofs.YtclpbhoekmecjaaGreatDoor
